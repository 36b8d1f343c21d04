import Derived.Test.YteonagfnhdlfcaaGreatDoorG0TlCore
open List renaming length_set → qL, take_succ_eq_append_getElem → qa, drop_eq_getElem_cons → qb, drop_of_length_le → qc, take_of_length_le → qd, getElem_set_self → qe, take_set_of_le → qh, map_cons → qi, getElem_of_mem → qk, all_eq_true → qm
open Option renaming bind_some → qf
open Nat renaming le_refl → qg, mul_le_mul_left → ql, mul_succ → qo
open Array renaming length_toList → qj
open Bool renaming eq_iff_iff → qn
set_option linter.unusedSimpArgs false
set_option linter.unusedVariables false
noncomputable section
namespace Go.TL
section
variable {α β σ ρ γ τ:Type}
def zv2 (body:α→σ→Option (σ⊕ρ)):List α→σ→Option (σ⊕ρ)
 | [],s=>some (.inl s)
 | x :: r,s=>(body x s).bind λ y=>match y with
  | .inl s'=>zv2 body r s'
  | .inr e=>some (.inr e)
def zsr (body:Nat→σ→Option (σ⊕ρ)):Nat→Nat→σ→Option (σ⊕ρ)
 | 0,_,s=>some (.inl s)
 | n+1,i,s=>(body i s).bind λ y=>match y with
  | .inl s'=>zsr body n (i+1) s'
  | .inr e=>some (.inr e)
theorem zoJ {step:γ→Option (γ⊕τ)} (mk:Int→σ→γ) (body:Nat→σ→Option (σ⊕ρ)) (late:σ→τ) (early:ρ→τ) (inv:σ→Prop) (n:Nat)
  (hs:∀ (i:Nat) (s:σ),i < n→inv s→step (mk i s)=(body i s).map λ y=>match y with
   | .inl s'=>.inl (mk (i+1:Nat) s')
   | .inr e=>.inr (early e))
  (hi:∀ (i:Nat) (s s':σ),i < n→inv s→body i s=some (.inl s')→inv s')
  (he:∀ s,inv s→step (mk n s)=some (.inr (late s))) :
  ∀ (m i:Nat) (s:σ),i+m=n→inv s→zjZ step (mk i s)=(zsr body m i s).map λ y=>match y with
   | .inl s'=>late s'
   | .inr e=>early e
 | 0,i,s,h,hv=>by
  have:i=n:=by omega
  subst this
  exact zkl (he s hv)
 | m+1,i,s,h,hv=>by
  have h1:=hs i s (by omega) hv
  unfold zsr
  cases hb:body i s with
  | none =>
   rw [hb] at h1
   cases hl:zjZ step (mk i s) with
   | none=>rfl
   | some r =>
    obtain ⟨k,hk⟩:=zoG hl
    cases hk with
    | out h'=>rw [h1] at h';cases h'
    | on h' _=>rw [h1] at h';cases h'
  | some y =>
   rw [hb] at h1
   cases y with
   | inl s' =>
    rw [zkX h1]
    exact zoJ mk body late early inv n hs hi he m (i+1) s' (by omega) (hi i s s' (by omega) hv hb)
   | inr e=>exact zkl h1
theorem zsU [Inhabited α] (body:α→σ→Option (σ⊕ρ)) (l:List α):∀ (m i:Nat) (s:σ),i+m=l.length→zsr (λ i=>body (nth l i)) m i s=zv2 body (l.drop i) s
 | 0,i,s,h=>by rw [qc (by omega)];rfl
 | m+1,i,s,h=>by
  have hi:i < l.length:=by omega
  rw [qb hi]
  unfold zsr zv2
  have:nth l i=l[i]:=by simp [nth,List.getD,hi]
  rw [this]
  cases body l[i] s with
  | none=>rfl
  | some y =>
   cases y with
   | inl s'=>exact zsU body l m (i+1) s' (by omega)
   | inr e=>rfl
theorem zxC [Inhabited α] {step:γ→Option (γ⊕τ)} (mk:Int→σ→γ) (l:List α) (body:α→σ→Option (σ⊕ρ)) (late:σ→τ) (early:ρ→τ) (inv:σ→Prop)
  (hs:∀ (i:Nat) (s:σ),i < l.length→inv s→step (mk i s)=(body (nth l i) s).map λ y=>match y with
   | .inl s'=>.inl (mk (i+1:Nat) s')
   | .inr e=>.inr (early e))
  (hi:∀ (i:Nat) (s s':σ),i < l.length→inv s→body (nth l i) s=some (.inl s')→inv s')
  (he:∀ s,inv s→step (mk l.length s)=some (.inr (late s))) (s:σ) (h0:inv s):zjZ step (mk 0 s)=(zv2 body l s).map λ y=>match y with
   | .inl s'=>late s'
   | .inr e=>early e:=by
 have:=zoJ mk (λ i=>body (nth l i)) late early inv l.length hs hi he l.length 0 s (by omega) h0
 rw [zsU body l l.length 0 s (by omega)] at this
 simpa using this
theorem zkj [Inhabited α] {l:List α} {n:Nat} (h:n < l.length):nth l n=l[n]:=by simp [nth,List.getD,h]
theorem zks [Inhabited α] {l:List α} {n:Nat} (h:n < l.length):nth l n∈l:=by rw [zkj h];exact List.getElem_mem h
theorem zrH [Inhabited α] {a b:List α} (h:a.length=b.length) (hn:∀ j,j < a.length→nth a j=nth b j):a=b:=by
 refine List.ext_getElem h λ j h1 h2=>?_
 have:=hn j h1
 rwa [zkj h1,zkj h2] at this
def zqb [Inhabited α] [DecidableEq α] (a b:List α):Nat→Nat→Bool
 | 0,_=>true
 | m+1,i=>decide (nth a i=nth b i) && zqb a b m (i+1)
theorem zrJ [Inhabited α] [DecidableEq α] (a b:List α):∀ m i,zqb a b m i=true↔∀ j,i≤j→j < i+m→nth a j=nth b j
 | 0,i=>⟨λ _ j h1 h2=>by omega,λ _=>rfl⟩
 | m+1,i=>by
  unfold zqb
  rw [Bool.and_eq_true,zrJ a b m (i+1),decide_eq_true_eq]
  refine ⟨λ ⟨h1,h2⟩ j h3 h4=>?_,λ h=>⟨h i (qg _) (by omega),λ j h1 h2=>h j (by omega) (by omega)⟩⟩
  by_cases e:j=i
  ·rw [e];exact h1
  ·exact h2 j (by omega) (by omega)
theorem zoK [Inhabited α] [DecidableEq α] {step:γ→Option (γ⊕(Unit⊕Unit))} (mk:Int→γ) (a b:List α) (hl:a.length=b.length)
  (hs:∀ (i:Nat),i < a.length→step (mk i)=some (if nth a i=nth b i then .inl (mk (i+1:Nat)) else .inr (.inl ())))
  (he:step (mk a.length)=some (.inr (.inr ()))):zjZ step (mk 0)=some (if a=b then .inr () else .inl ()):=by
 have key:=zoJ (step:=step) (σ:=Unit) (ρ:=Unit) (λ i _=>mk i) (λ i _=>some (if nth a i=nth b i then .inl () else .inr ())) (λ _=>(.inr ():Unit⊕Unit)) (λ _=>(.inl ():Unit⊕Unit)) (λ _=>True) a.length
  (λ i s hi _=>by rw [hs i hi];split<;>rfl) (λ _ _ _ _ _ _=>trivial) (λ s _=>he)
 have hf:∀ (m i:Nat),zsr (σ:=Unit) (ρ:=Unit) (λ i _=>some (if nth a i=nth b i then .inl () else .inr ())) m i ()=some (if zqb a b m i=true then .inl () else .inr ()):=by
  intro m
  induction m with
  | zero=>intro i;rfl
  | succ m ih =>
   intro i
   unfold zsr zqb
   by_cases e:nth a i=nth b i
   ·simp only [e,if_true,qf,decide_true,Bool.true_and]
    exact ih (i+1)
   ·simp [e]
 have:=key a.length 0 () (by omega) trivial
 rw [hf] at this
 have e:zqb a b a.length 0=true↔a=b:=by
  rw [zrJ]
  exact ⟨λ h=>zrH hl λ j hj=>h j (Nat.zero_le _) (by omega),λ h j _ _=>by rw [h]⟩
 refine this.trans ?_
 by_cases h:a=b
 ·rw [if_pos h,if_pos (e.2 h)];rfl
 ·rw [if_neg h,if_neg (λ h'=>h (e.1 h'))];rfl
theorem zsV [Inhabited α] {step:γ→Option (γ⊕τ)} (mk:Int→List β→γ) (a:List α) (f:α→β) (ex:List β→τ)
  (hs:∀ (i:Nat) (l:List β),i < a.length→l.length=a.length→step (mk i l)=some (.inl (mk (i+1:Nat) (l.set i (f (nth a i))))))
  (he:∀ l,l.length=a.length→step (mk a.length l)=some (.inr (ex l))) (l0:List β) (h0:l0.length=a.length):zjZ step (mk 0 l0)=some (ex (a.map f)):=by
 have key:=zoJ (ρ:=Empty) mk (λ i l=>some (.inl (l.set i (f (nth a i))))) ex (λ e=>nomatch e) (λ l=>l.length=a.length) a.length
  (λ i l hi hl=>by rw [hs i l hi hl];rfl) (λ i l l' _ hl h=>by cases h;simpa using hl) he a.length 0 l0 (by omega) h0
 have hf:∀ (m i:Nat) (l:List β),i+m=a.length→l.length=a.length→zsr (ρ:=Empty) (λ i l=>some (.inl (l.set i (f (nth a i))))) m i l=some (.inl (l.take i++(a.drop i).map f)):=by
  intro m
  induction m with
  | zero =>
   intro i l h hl
   rw [qc (by omega),qd (by omega)]
   simp [zsr]
  | succ m ih =>
   intro i l h hl
   unfold zsr
   simp only [qf]
   rw [ih (i+1) _ (by omega) (by simpa using hl)]
   have hi:i < a.length:=by omega
   have e:(l.set i (f (nth a i))).take (i+1)=l.take i++[f (nth a i)]:=by
    rw [qa (by rw [qL];omega),qe]
    rw [qh (qg _)]
   rw [e,qb hi,qi,zkj hi,List.append_assoc]
   rfl
 rw [hf _ 0 l0 (by omega) h0] at key
 simpa using key
end
end Go.TL
namespace Go.TL
section
variable {α β σ ρ γ τ:Type}
theorem zmP (s:ByteArray):s.toList=s.data.toList:=by
 have key:∀ (n i:Nat) (r:List UInt8),i+n=s.size→ByteArray.toList.loop s i r=r.reverse++s.data.toList.drop i:=by
  intro n
  induction n with
  | zero =>
   intro i r h
   unfold ByteArray.toList.loop
   rw [if_neg (by omega),qc (by rw [qj];exact Nat.le_of_eq (h.symm.trans (Nat.add_zero i)))]
   simp
  | succ n ih =>
   intro i r h
   unfold ByteArray.toList.loop
   rw [if_pos (by omega),ih (i+1) _ (by omega)]
   have hi:i < s.data.toList.length:=by
    have hsz:s.size=s.data.size:=rfl
    rw [qj];omega
   rw [qb hi]
   have:s.get! i=s.data.toList[i]:=by
    simp only [ByteArray.get!]
    rw [getElem!_pos s.data i (by simpa using hi)]
    simp
   rw [this]
   simp
 have:=key s.size 0 [] (by omega)
 simpa [ByteArray.toList] using this
theorem zsW {a b:ByteArray} (h:a.toList=b.toList):a=b:=by
 rw [zmP,zmP] at h
 cases a;cases b
 simp only [ByteArray.mk.injEq]
 exact Array.ext' h
theorem sEq (a b:ByteArray):(a.toList == b.toList)=decide (a=b):=by
 by_cases h:a=b
 ·subst h;simp
 ·rw [decide_eq_false h,beq_eq_false_iff_ne]
  exact λ e=>h (zsW e)
def znr:List Nat→Nat
 | []=>0
 | x :: r=>x+znr r
def szr (s:Nat) (n:Int):Int:=if (s:Int)≤n then n - s else -1
theorem zAw [Inhabited α] {step:γ→Option (γ⊕τ)} (mk:Int→Int→γ) (l:List α) (f:α→Nat) (B:Int) (late:Int→τ) (early:τ)
  (hs:∀ (i:Nat) (s:Int),i < l.length→0≤s∧s≤B→step (mk i s)=some (if (f (nth l i):Int)≤s then .inl (mk (i+1:Nat) (s - f (nth l i))) else .inr early))
  (he:∀ s,0≤s∧s≤B→step (mk l.length s)=some (.inr (late s))) (s:Int) (h0:0≤s∧s≤B) :
  zjZ step (mk 0 s)=some (if (znr (l.map f):Int)≤s then late (s - znr (l.map f)) else early):=by
 have key:=zxC (step:=step) (ρ:=Unit) mk l (λ x s=>some (if (f x:Int)≤s then .inl (s - f x) else .inr ())) late (λ _=>early) (λ s=>0≤s∧s≤B)
  (λ i s hi hv=>by rw [hs i s hi hv];simp only [Option.map_some];split<;>rfl)
  (λ i s s' hi hv h=>by
   simp only [Option.some.injEq] at h
   split at h
   ·cases h;omega
   ·cases h) he s h0
 have hf:∀ (l:List α) (s:Int),0≤s→zv2 (ρ:=Unit) (λ x s=>some (if (f x:Int)≤s then .inl (s - f x) else .inr ())) l s=some (if (znr (l.map f):Int)≤s then .inl (s - znr (l.map f)) else .inr ()):=by
  intro l
  induction l with
  | nil=>intro s h;simp [zv2,znr,h]
  | cons x r ih =>
   intro s h
   simp only [zv2,qi,znr,qf]
   by_cases hx:(f x:Int)≤s
   ·rw [if_pos hx]
    simp only
    rw [ih _ (by omega)]
    by_cases h2:(znr (r.map f):Int)≤s - f x
    ·rw [if_pos h2,if_pos (by omega)]
     congr 2
     omega
    ·rw [if_neg h2,if_neg (by omega)]
   ·rw [if_neg hx,if_neg (by omega)]
 rw [hf l s h0.1] at key
 refine key.trans ?_
 by_cases h:(znr (l.map f):Int)≤s
 ·rw [if_pos h,if_pos h];rfl
 ·rw [if_neg h,if_neg h];rfl
end
end Go.TL
namespace Go.TL
theorem zuU {α:Type} (f:α→Nat) {l:List α} {x:α} (h:x∈l):f x≤znr (l.map f):=by
 induction l with
 | nil=>cases h
 | cons y r ih =>
  simp only [qi,znr]
  rcases List.mem_cons.1 h with rfl | h
  ·omega
  ·have:=ih h;omega
end Go.TL
namespace Go.TL
section
variable {α β σ ρ γ τ:Type}
def zmw (p:Nat→Bool) (n:Nat):Bool:=(List.range n).all p
theorem zkU {p:Nat→Bool} {n:Nat}:zmw p n=true↔∀ i,i < n→p i=true:=by simp [zmw,qm]
theorem zpC [Inhabited α] (l:List α) (p:α→Bool):zmw (λ i=>p (nth l i)) l.length=l.all p:=by
 rw [qn,zkU,qm]
 refine ⟨λ h x hx=>?_,λ h i hi=>h _ (zks hi)⟩
 obtain ⟨i,hi,rfl⟩:=qk hx
 have:=h i hi
 rwa [zkj hi] at this
theorem zk9 {step:γ→Option (γ⊕τ)} (mk:Int→γ) (n:Nat) (p:Nat→Bool) (good bad:τ)
  (hs:∀ (i:Nat),i < n→(∀ j,j < i→p j=true)→step (mk i)=some (if p i=true then .inl (mk (i+1:Nat)) else .inr bad))
  (he:(∀ j,j < n→p j=true)→step (mk n)=some (.inr good)):zjZ step (mk 0)=some (if zmw p n=true then good else bad):=by
 have key:∀ (m i:Nat),i+m=n→(∀ j,j < i→p j=true)→zjZ step (mk i)=some (if zmw p n=true then good else bad):=by
  intro m
  induction m with
  | zero =>
   intro i h hv
   have e:i=n:=by omega
   subst e
   rw [zkl (he hv),if_pos (zkU.2 hv)]
  | succ m ih =>
   intro i h hv
   have h1:=hs i (by omega) hv
   by_cases hp:p i=true
   ·rw [if_pos hp] at h1
    rw [zkX h1]
    exact ih (i+1) (by omega) λ j hj=>by
     by_cases e:j=i
     ·rw [e];exact hp
     ·exact hv j (by omega)
   ·rw [if_neg hp] at h1
    rw [zkl h1,if_neg λ h=>hp (zkU.1 h i (by omega))]
 exact key n 0 (by omega) λ j hj=>by omega
def zlH (p:Nat→Bool) (n:Nat):Option Nat:=(List.range n).find? p
theorem zmj {p:Nat→Bool} {n i:Nat} (h1:i < n) (h2:p i=true) (h3:∀ j,j < i→p j=false):zlH p n=some i:=by
 unfold zlH
 rw [List.find?_range_eq_some]
 exact ⟨h2,by simpa using h1,λ j hj=>by simp [h3 j hj]⟩
theorem zn0 {p:Nat→Bool} {n:Nat} (h:∀ j,j < n→p j=false):zlH p n=none:=by
 unfold zlH
 rw [List.find?_eq_none]
 intro x hx
 simp [h x (List.mem_range.1 hx)]
theorem zlU {step:γ→Option (γ⊕τ)} (mk:Int→γ) (n:Nat) (p:Nat→Bool) (early:Nat→τ) (late:τ)
  (hs:∀ (i:Nat),i < n→(∀ j,j < i→p j=false)→step (mk i)=some (if p i=true then .inr (early i) else .inl (mk (i+1:Nat))))
  (he:step (mk n)=some (.inr late)):zjZ step (mk 0)=some (match zlH p n with | some i=>early i | none=>late):=by
 have key:∀ (m i:Nat),i+m=n→(∀ j,j < i→p j=false)→zjZ step (mk i)=some (match zlH p n with | some i=>early i | none=>late):=by
  intro m
  induction m with
  | zero =>
   intro i h hv
   have e:i=n:=by omega
   subst e
   rw [zkl he,zn0 hv]
  | succ m ih =>
   intro i h hv
   have h1:=hs i (by omega) hv
   by_cases hp:p i=true
   ·rw [if_pos hp] at h1
    rw [zkl h1,zmj (by omega) hp hv]
   ·rw [if_neg hp] at h1
    rw [zkX h1]
    exact ih (i+1) (by omega) λ j hj=>by
     by_cases e:j=i
     ·rw [e];simpa using hp
     ·exact hv j (by omega)
 exact key n 0 (by omega) λ j hj=>by omega
theorem znH [Inhabited α] (l:List α) (p:α→Bool):(zlH (λ i=>p (nth l i)) l.length).isSome=l.any p:=by
 rw [qn,List.any_eq_true]
 unfold zlH
 rw [List.find?_isSome]
 constructor
 ·rintro ⟨i,hi,hp⟩
  exact ⟨_,zks (List.mem_range.1 hi),hp⟩
 ·rintro ⟨x,hx,hp⟩
  obtain ⟨i,hi,rfl⟩:=qk hx
  exact ⟨i,List.mem_range.2 hi,by rw [zkj hi];exact hp⟩
end
end Go.TL
namespace Go.TL
section
variable {α β γ:Type}
def okO (Q:α→Prop) (o:Option α):Prop:=∃ x,o=some x∧Q x
theorem okO.some {Q:α→Prop} {x:α} (h:Q x):okO Q (Option.some x):=⟨x,rfl,h⟩
theorem okO.mono {Q R:α→Prop} {o:Option α} (h:okO Q o) (hq:∀ x,Q x→R x):okO R o:=let ⟨x,e,h⟩:=h;⟨x,e,hq x h⟩
theorem okO.bind {P:α→Prop} {Q:β→Prop} {o:Option α} {f:α→Option β} (h:okO P o) (hf:∀ x,P x→okO Q (f x)):okO Q (o.bind f):=by
 obtain ⟨x,rfl,hx⟩:=h
 exact hf x hx
theorem okO.bind_some {Q:β→Prop} {x:α} {f:α→Option β} (h:okO Q (f x)):okO Q ((Option.some x).bind f):=h
theorem okO.ite {Q:β→Prop} {c:Bool} {a b:Option β} (h1:c=true→okO Q a) (h2:c=false→okO Q b):okO Q (if c=true then a else b):=by
 cases c
 ·exact h2 rfl
 ·exact h1 rfl
theorem okO.guard {Q:β→Prop} {p:Prop} [Decidable p] {k:Option β} (h:p) (hk:okO Q k):okO Q (zjP p k):=by rw [zjL h];exact hk
theorem okO.of_eq {Q:β→Prop} {o o':Option β} (e:o=o') (h:okO Q o'):okO Q o:=e ▸ h
theorem okO.loop {σ ρ:Type} {step:σ→Option (σ⊕ρ)} (inv:σ→Prop) (meas:σ→Nat) {Q:ρ→Prop} {s:σ} (hs:inv s)
  (h:∀ s,inv s→okO (λ y=>match y with | .inl s'=>inv s'∧meas s' < meas s | .inr r=>Q r) (step s)):okO Q (zjZ step s):=by
 refine zAc inv meas Q (λ s hs=>?_) hs
 obtain ⟨y,e,hy⟩:=h s hs
 cases y with
 | inl s'=>exact .inl ⟨s',e,hy.1,hy.2⟩
 | inr r=>exact .inr ⟨r,e,hy⟩
end
end Go.TL
namespace Go.TL
section
variable {β γ τ:Type}
def zmc (f:Int→β) (w:Nat) (k:Int) (n:Nat):List β:=(List.range n).map λ i=>f (k+(w * i:Nat))
theorem zkG (f:Int→β) (w:Nat) (k:Int) (n:Nat):(zmc f w k n).length=n:=by simp [zmc]
theorem zsX (f:Int→β) (w:Nat) (k:Int) (n i:Nat) (h:i < (zmc f w k n).length):(zmc f w k n)[i]=f (k+(w * i:Nat)):=by simp [zmc]
theorem zxD [Inhabited β] {f:Int→β} {w:Nat} {k:Int} {n i:Nat} (h:i < n):nth (zmc f w k n) i=f (k+(w * i:Nat)):=by
 rw [zkj (by rw [zkG];exact h),zsX]
theorem nth_set_same [Inhabited β] {l:List β} {i:Nat} {v:β} (h:i < l.length):nth (l.set i v) i=v:=by
 rw [zkj (by rw [qL];exact h),qe]
theorem zqc {step:γ→Option (γ⊕τ)} (mk:Int→Int→List β→γ) (w:Nat) (f:Int→β) (n:Nat) (B:Int) (ex:Int→List β→τ)
  (hs:∀ (i:Nat) (k:Int) (l:List β),i < n→l.length=n→0≤k→k+w≤B→step (mk i k l)=some (.inl (mk (i+1:Nat) (k+w) (l.set i (f k)))))
  (he:∀ k l,l.length=n→step (mk n k l)=some (.inr (ex k l))) (k0:Int) (l0:List β) (h0:l0.length=n) (hk:0≤k0) (hb:k0+(w * n:Nat)≤B) :
  zjZ step (mk 0 k0 l0)=some (ex (k0+(w * n:Nat)) (zmc f w k0 n)):=by
 have key:∀ (m i:Nat) (l:List β),i+m=n→l.length=n→l.take i=(zmc f w k0 n).take i→zjZ step (mk i (k0+(w * i:Nat)) l)=some (ex (k0+(w * n:Nat)) (zmc f w k0 n)):=by
  intro m
  induction m with
  | zero =>
   intro i l h hl ht
   have e:i=n:=by omega
   subst e
   have hl':l=zmc f w k0 i:=by
    rw [qd (by omega),qd (by rw [zkG];exact qg _)] at ht
    exact ht
   rw [zkl (he _ _ hl),hl']
  | succ m ih =>
   intro i l h hl ht
   have hi:i < n:=by omega
   have hw:w * (i+1)≤w * n:=ql w hi
   have hw2:w * (i+1)=w * i+w:=qo w i
   rw [zkX (hs i _ l hi hl (by omega) (by omega))]
   have e:k0+((w * i:Nat):Int)+(w:Int)=k0+((w * (i+1):Nat):Int):=by omega
   rw [e]
   refine ih (i+1) _ (by omega) (by rw [qL];exact hl) ?_
   rw [qa (by rw [qL];omega),qe,qh (qg _),ht]
   rw [qa (by rw [zkG];omega),zsX]
 have:=key n 0 l0 (by omega) h0 (by simp)
 simpa using this
theorem zsY [Inhabited β] {step:γ→Option (γ⊕(Unit⊕τ))} (mk:Int→Int→γ) (w:Nat) (f:Int→β) (n:Nat) (B:Int) (late:Int→τ) (k0:Int)
  (hs:∀ (i:Nat) (k:Int),i < n→nth (zmc f w k0 n) i=f k→0≤k→k+w≤B→step (mk i k)=some (.inl (mk (i+1:Nat) (k+w))))
  (he:∀ k,step (mk n k)=some (.inr (.inr (late k)))) (hk:0≤k0) (hb:k0+(w * n:Nat)≤B) :
  zjZ step (mk 0 k0)=some (.inr (late (k0+(w * n:Nat)))):=by
 have key:∀ (m i:Nat),i+m=n→zjZ step (mk i (k0+(w * i:Nat)))=some (.inr (late (k0+(w * n:Nat)))):=by
  intro m
  induction m with
  | zero =>
   intro i h
   have e:i=n:=by omega
   subst e
   rw [zkl (he _)]
  | succ m ih =>
   intro i h
   have hi:i < n:=by omega
   have hw:w * (i+1)≤w * n:=ql w hi
   have hw2:w * (i+1)=w * i+w:=qo w i
   rw [zkX (hs i _ hi (zxD hi) (by omega) (by omega))]
   have e:k0+((w * i:Nat):Int)+(w:Int)=k0+((w * (i+1):Nat):Int):=by omega
   rw [e]
   exact ih (i+1) (by omega)
 have:=key n 0 (by omega)
 simpa using this
end
end Go.TL

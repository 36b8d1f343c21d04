import Derived.Test.YteonagfnhdlfcaaGreatDoorG0TlCore
open List renaming length_set → qL, getElem_of_mem → qb, all_eq_true → qc
open Array renaming length_toList → qa
open Bool renaming eq_iff_iff → qd
set_option linter.unusedSimpArgs false
set_option linter.unusedVariables false
noncomputable section
namespace Go.TL
section
variable {α β σ ρ γ τ:Type}
def zy8 (body:Nat→σ→Option (σ⊕ρ)):Nat→Nat→σ→Option (σ⊕ρ)
 | 0,_,s=>some (.inl s)
 | n+1,i,s=>(body i s).bind λ y=>match y with
  | .inl s'=>zy8 body n (i+1) s'
  | .inr e=>some (.inr e)
theorem ztc {step:γ→Option (γ⊕τ)} (mk:Int→σ→γ) (body:Nat→σ→Option (σ⊕ρ)) (late:σ→τ) (early:ρ→τ) (inv:σ→Prop) (n:Nat)
  (hs:∀ (i:Nat) (s:σ),i < n→inv s→step (mk i s)=(body i s).map λ y=>match y with
   | .inl s'=>.inl (mk (i+1:Nat) s')
   | .inr e=>.inr (early e))
  (hi:∀ (i:Nat) (s s':σ),i < n→inv s→body i s=some (.inl s')→inv s')
  (he:∀ s,inv s→step (mk n s)=some (.inr (late s))) :
  ∀ (m i:Nat) (s:σ),i+m=n→inv s→zkx step (mk i s)=(zy8 body m i s).map λ y=>match y with
   | .inl s'=>late s'
   | .inr e=>early e
 | 0,i,s,h,hv=>by
  have:i=n:=by omega
  subst this
  exact zk3 (he s hv)
 | m+1,i,s,h,hv=>by
  have h1:=hs i s (by omega) hv
  unfold zy8
  cases hb:body i s with
  | none =>
   rw [hb] at h1
   cases hl:zkx step (mk i s) with
   | none=>rfl
   | some r =>
    obtain ⟨k,hk⟩:=zpb hl
    cases hk with
    | out h'=>rw [h1] at h';cases h'
    | on h' _=>rw [h1] at h';cases h'
  | some y =>
   rw [hb] at h1
   cases y with
   | inl s' =>
    rw [zlQ h1]
    exact ztc mk body late early inv n hs hi he m (i+1) s' (by omega) (hi i s s' (by omega) hv hb)
   | inr e=>exact zk3 h1
theorem zkQ [Inhabited α] {l:List α} {n:Nat} (h:n < l.length):nth l n=l[n]:=by simp [nth,List.getD,h]
theorem zkJ [Inhabited α] {l:List α} {n:Nat} (h:n < l.length):nth l n∈l:=by rw [zkQ h];exact List.getElem_mem h
theorem zr5 [Inhabited α] {a b:List α} (h:a.length=b.length) (hn:∀ j,j < a.length→nth a j=nth b j):a=b:=by
 refine List.ext_getElem h λ j h1 h2=>?_
 have:=hn j h1
 rwa [zkQ h1,zkQ h2] at this
def zqD [Inhabited α] [DecidableEq α] (a b:List α):Nat→Nat→Bool
 | 0,_=>true
 | m+1,i=>decide (nth a i=nth b i) && zqD a b m (i+1)
theorem zr6 [Inhabited α] [DecidableEq α] (a b:List α):∀ m i,zqD a b m i=true↔∀ j,i≤j→j < i+m→nth a j=nth b j
 | 0,i=>⟨λ _ j h1 h2=>by omega,λ _=>rfl⟩
 | m+1,i=>by
  unfold zqD
  rw [Bool.and_eq_true,zr6 a b m (i+1),decide_eq_true_eq]
  refine ⟨λ ⟨h1,h2⟩ j h3 h4=>?_,λ h=>⟨h i (Nat.le_refl _) (by omega),λ j h1 h2=>h j (by omega) (by omega)⟩⟩
  by_cases e:j=i
  ·rw [e];exact h1
  ·exact h2 j (by omega) (by omega)
theorem zAH [Inhabited α] [DecidableEq α] {step:γ→Option (γ⊕(Unit⊕Unit))} (mk:Int→γ) (a b:List α) (hl:a.length=b.length)
  (hs:∀ (i:Nat),i < a.length→step (mk i)=some (if nth a i=nth b i then .inl (mk (i+1:Nat)) else .inr (.inl ())))
  (he:step (mk a.length)=some (.inr (.inr ()))):zkx step (mk 0)=some (if a=b then .inr () else .inl ()):=by
 have key:=ztc (step:=step) (σ:=Unit) (ρ:=Unit) (λ i _=>mk i) (λ i _=>some (if nth a i=nth b i then .inl () else .inr ())) (λ _=>(.inr ():Unit⊕Unit)) (λ _=>(.inl ():Unit⊕Unit)) (λ _=>True) a.length
  (λ i s hi _=>by rw [hs i hi];split<;>rfl) (λ _ _ _ _ _ _=>trivial) (λ s _=>he)
 have hf:∀ (m i:Nat),zy8 (σ:=Unit) (ρ:=Unit) (λ i _=>some (if nth a i=nth b i then .inl () else .inr ())) m i ()=some (if zqD a b m i=true then .inl () else .inr ()):=by
  intro m
  induction m with
  | zero=>intro i;rfl
  | succ m ih =>
   intro i
   unfold zy8 zqD
   by_cases e:nth a i=nth b i
   ·simp only [e,if_true,Option.bind_some,decide_true,Bool.true_and]
    exact ih (i+1)
   ·simp [e]
 have:=key a.length 0 () (by omega) trivial
 rw [hf] at this
 have e:zqD a b a.length 0=true↔a=b:=by
  rw [zr6]
  exact ⟨λ h=>zr5 hl λ j hj=>h j (Nat.zero_le _) (by omega),λ h j _ _=>by rw [h]⟩
 refine this.trans ?_
 by_cases h:a=b
 ·rw [if_pos h,if_pos (e.2 h)];rfl
 ·rw [if_neg h,if_neg (λ h'=>h (e.1 h'))];rfl
end
end Go.TL
namespace Go.TL
section
variable {α β σ ρ γ τ:Type}
theorem znf (s:ByteArray):s.toList=s.data.toList:=by
 have key:∀ (n i:Nat) (r:List UInt8),i+n=s.size→ByteArray.toList.loop s i r=r.reverse++s.data.toList.drop i:=by
  intro n
  induction n with
  | zero =>
   intro i r h
   unfold ByteArray.toList.loop
   rw [if_neg (by omega),List.drop_of_length_le (by rw [qa];exact Nat.le_of_eq (h.symm.trans (Nat.add_zero i)))]
   simp
  | succ n ih =>
   intro i r h
   unfold ByteArray.toList.loop
   rw [if_pos (by omega),ih (i+1) _ (by omega)]
   have hi:i < s.data.toList.length:=by
    have hsz:s.size=s.data.size:=rfl
    rw [qa];omega
   rw [List.drop_eq_getElem_cons hi]
   have:s.get! i=s.data.toList[i]:=by
    simp only [ByteArray.get!]
    rw [getElem!_pos s.data i (by simpa using hi)]
    simp
   rw [this]
   simp
 have:=key s.size 0 [] (by omega)
 simpa [ByteArray.toList] using this
theorem ztd {a b:ByteArray} (h:a.toList=b.toList):a=b:=by
 rw [znf,znf] at h
 cases a;cases b
 simp only [ByteArray.mk.injEq]
 exact Array.ext' h
theorem sEq (a b:ByteArray):(a.toList == b.toList)=decide (a=b):=by
 by_cases h:a=b
 ·subst h;simp
 ·rw [decide_eq_false h,beq_eq_false_iff_ne]
  exact λ e=>h (ztd e)
def zCo:List Nat→Nat
 | []=>0
 | x :: r=>x+zCo r
end
end Go.TL
namespace Go.TL
end Go.TL
namespace Go.TL
section
variable {α β σ ρ γ τ:Type}
def zmP (p:Nat→Bool) (n:Nat):Bool:=(List.range n).all p
theorem zll {p:Nat→Bool} {n:Nat}:zmP p n=true↔∀ i,i < n→p i=true:=by simp [zmP,qc]
theorem zp4 [Inhabited α] (l:List α) (p:α→Bool):zmP (λ i=>p (nth l i)) l.length=l.all p:=by
 rw [qd,zll,qc]
 refine ⟨λ h x hx=>?_,λ h i hi=>h _ (zkJ hi)⟩
 obtain ⟨i,hi,rfl⟩:=qb hx
 have:=h i hi
 rwa [zkQ hi] at this
theorem zlx {step:γ→Option (γ⊕τ)} (mk:Int→γ) (n:Nat) (p:Nat→Bool) (good bad:τ)
  (hs:∀ (i:Nat),i < n→(∀ j,j < i→p j=true)→step (mk i)=some (if p i=true then .inl (mk (i+1:Nat)) else .inr bad))
  (he:(∀ j,j < n→p j=true)→step (mk n)=some (.inr good)):zkx step (mk 0)=some (if zmP p n=true then good else bad):=by
 have key:∀ (m i:Nat),i+m=n→(∀ j,j < i→p j=true)→zkx step (mk i)=some (if zmP p n=true then good else bad):=by
  intro m
  induction m with
  | zero =>
   intro i h hv
   have e:i=n:=by omega
   subst e
   rw [zk3 (he hv),if_pos (zll.2 hv)]
  | succ m ih =>
   intro i h hv
   have h1:=hs i (by omega) hv
   by_cases hp:p i=true
   ·rw [if_pos hp] at h1
    rw [zlQ h1]
    exact ih (i+1) (by omega) λ j hj=>by
     by_cases e:j=i
     ·rw [e];exact hp
     ·exact hv j (by omega)
   ·rw [if_neg hp] at h1
    rw [zk3 h1,if_neg λ h=>hp (zll.1 h i (by omega))]
 exact key n 0 (by omega) λ j hj=>by omega
def zlp (p:Nat→Bool) (n:Nat):Option Nat:=(List.range n).find? p
theorem zmQ {p:Nat→Bool} {n i:Nat} (h1:i < n) (h2:p i=true) (h3:∀ j,j < i→p j=false):zlp p n=some i:=by
 unfold zlp
 rw [List.find?_range_eq_some]
 exact ⟨h2,by simpa using h1,λ j hj=>by simp [h3 j hj]⟩
theorem znr {p:Nat→Bool} {n:Nat} (h:∀ j,j < n→p j=false):zlp p n=none:=by
 unfold zlp
 rw [List.find?_eq_none]
 intro x hx
 simp [h x (List.mem_range.1 hx)]
theorem zlm {step:γ→Option (γ⊕τ)} (mk:Int→γ) (n:Nat) (p:Nat→Bool) (early:Nat→τ) (late:τ)
  (hs:∀ (i:Nat),i < n→(∀ j,j < i→p j=false)→step (mk i)=some (if p i=true then .inr (early i) else .inl (mk (i+1:Nat))))
  (he:step (mk n)=some (.inr late)):zkx step (mk 0)=some (match zlp p n with | some i=>early i | none=>late):=by
 have key:∀ (m i:Nat),i+m=n→(∀ j,j < i→p j=false)→zkx step (mk i)=some (match zlp p n with | some i=>early i | none=>late):=by
  intro m
  induction m with
  | zero =>
   intro i h hv
   have e:i=n:=by omega
   subst e
   rw [zk3 he,znr hv]
  | succ m ih =>
   intro i h hv
   have h1:=hs i (by omega) hv
   by_cases hp:p i=true
   ·rw [if_pos hp] at h1
    rw [zk3 h1,zmQ (by omega) hp hv]
   ·rw [if_neg hp] at h1
    rw [zlQ h1]
    exact ih (i+1) (by omega) λ j hj=>by
     by_cases e:j=i
     ·rw [e];simpa using hp
     ·exact hv j (by omega)
 exact key n 0 (by omega) λ j hj=>by omega
theorem zmz [Inhabited α] (l:List α) (p:α→Bool):(zlp (λ i=>p (nth l i)) l.length).isSome=l.any p:=by
 rw [qd,List.any_eq_true]
 unfold zlp
 rw [List.find?_isSome]
 constructor
 ·rintro ⟨i,hi,hp⟩
  exact ⟨_,zkJ (List.mem_range.1 hi),hp⟩
 ·rintro ⟨x,hx,hp⟩
  obtain ⟨i,hi,rfl⟩:=qb hx
  exact ⟨i,List.mem_range.2 hi,by rw [zkQ hi];exact hp⟩
end
end Go.TL
namespace Go.TL
section
variable {α β γ:Type}
def okO (Q:α→Prop) (o:Option α):Prop:=∃ x,o=some x∧Q x
theorem okO.some {Q:α→Prop} {x:α} (h:Q x):okO Q (Option.some x):=⟨x,rfl,h⟩
theorem okO.mono {Q R:α→Prop} {o:Option α} (h:okO Q o) (hq:∀ x,Q x→R x):okO R o:=let ⟨x,e,h⟩:=h;⟨x,e,hq x h⟩
theorem okO.bind {P:α→Prop} {Q:β→Prop} {o:Option α} {f:α→Option β} (h:okO P o) (hf:∀ x,P x→okO Q (f x)):okO Q (o.bind f):=by
 obtain ⟨x,rfl,hx⟩:=h
 exact hf x hx
theorem okO.bind_some {Q:β→Prop} {x:α} {f:α→Option β} (h:okO Q (f x)):okO Q ((Option.some x).bind f):=h
theorem okO.bind_bind {Q:γ→Prop} {o:Option α} {g:α→Option β} {f:β→Option γ} (h:okO Q (o.bind λ x=>(g x).bind f)):okO Q ((o.bind g).bind f):=by
 cases o<;>exact h
theorem okO.ite {Q:β→Prop} {c:Bool} {a b:Option β} (h1:c=true→okO Q a) (h2:c=false→okO Q b):okO Q (if c=true then a else b):=by
 cases c
 ·exact h2 rfl
 ·exact h1 rfl
theorem okO.guard {Q:β→Prop} {p:Prop} [Decidable p] {k:Option β} (h:p) (hk:okO Q k):okO Q (zkk p k):=by rw [zj9 h];exact hk
theorem okO.bind_guard {Q:β→Prop} {p:Prop} [Decidable p] {k:Option α} {f:α→Option β} (h:p) (hk:okO Q (k.bind f)):okO Q ((zkk p k).bind f):=by rw [zj9 h];exact hk
theorem okO.of_eq {Q:β→Prop} {o o':Option β} (e:o=o') (h:okO Q o'):okO Q o:=e ▸ h
theorem okO.loop {σ ρ:Type} {step:σ→Option (σ⊕ρ)} (inv:σ→Prop) (meas:σ→Nat) {Q:ρ→Prop} {s:σ} (hs:inv s)
  (h:∀ s,inv s→okO (λ y=>match y with | .inl s'=>inv s'∧meas s' < meas s | .inr r=>Q r) (step s)):okO Q (zkx step s):=by
 refine zAn inv meas Q (λ s hs=>?_) hs
 obtain ⟨y,e,hy⟩:=h s hs
 cases y with
 | inl s'=>exact .inl ⟨s',e,hy.1,hy.2⟩
 | inr r=>exact .inr ⟨r,e,hy⟩
end
end Go.TL
namespace Go.TL
section
variable {β γ τ:Type}
theorem nth_set_same [Inhabited β] {l:List β} {i:Nat} {v:β} (h:i < l.length):nth (l.set i v) i=v:=by
 rw [zkQ (by rw [qL];exact h),List.getElem_set_self]
end
end Go.TL

import Derived.Test.YteonagfnhdlfcaaGreatDoorTlDraw
open List renaming length_cons → qP, all_eq_true → qc, mem_cons_of_mem → qd, mem_cons_self → qg
open Bool renaming and_eq_true → qa, or_eq_true → qb, not_true → qe, false_or → qf
open Nat renaming testBit_or → qh
set_option linter.unusedSimpArgs false
set_option linter.unusedVariables false
noncomputable section
namespace Go.TL
open Go
def zrV (acc:List Nat):List Edge→Nat
 | []=>0
 | e :: r=>(if Region.binds .any e then (2 ^ e.on ||| acc.getD e.on 0) else 0) ||| zrV acc r
def znJ:List Oper→List Nat→List Nat
 | [],acc=>acc
 | o :: r,acc=>znJ r (acc++[zrV acc o.after.toList])
def zpF:Op→Bool
 | .alloc _=>true
 | .buildSlice _ _ parts=>!parts.toList.isEmpty
 | _=>false
def zBu:Op→Bool
 | .buildSlice _ _ _=>true
 | _=>false
def zrW (ms:List Nat) (all:Array Oper) (i:Nat):Bool :=
 (List.range i).all λ l=>match all[l]? with
  | some o=>zk0 o.op != 2 || (ms.getD i 0).testBit l
  | none=>true
def zBv (ms:List Nat) (cf:List (Nat×Nat)) (all:Array Oper) (i j:Nat) (x y:Oper):Bool :=
 !zpF x.op || (zk0 y.op == 2 && (!zpF y.op || (match x.dst with | some d=>!(y.looksAt all).contains d | none=>true))) || zrW ms all i || ((match x.dst with | some d=>!(y.looksAt all).contains d | none=>true) && (zk0 y.op != 1 || cf.contains (j,i)))
def zuL (ms:List Nat) (cf:List (Nat×Nat)) (all:Array Oper) (i j:Nat) (x y:Oper):Bool :=
 (match x.dst with | some d=>y.dst != some d | none=>true) &&
 ((ms.getD j 0).testBit i || (x.apart all y && (match zk0 x.op,zk0 y.op with
  | 2,2=>zpF y.op
  | 1,2=>cf.contains (i,j)
  | 2,1=>cf.contains (j,i)
  | _,_=>true)))
def zAs (ms:List Nat) (cf:List (Nat×Nat)) (all:Array Oper) (i:Nat) (x:Oper):Bool :=
 (!zpF x.op || x.guard == none || zrW ms all i) && (!zBu x.op || zrW ms all i || cf.contains (i,i)) && zk0 x.op != 3 && x.after.toList.all (λ e=>!Region.binds .any e || decide (e.on < i))
def chk (cf:List (Nat×Nat)) (all:Array Oper):Bool :=
 all.toList.zipIdx.all λ p=>zAs (znJ all.toList []) cf all p.2 p.1 && all.toList.zipIdx.all λ q=>decide (q.2≤p.2) || (zuL (znJ all.toList []) cf all p.2 q.2 p.1 q.1 && zBv (znJ all.toList []) cf all p.2 q.2 p.1 q.1)
def ztT (ops:List Oper) (L:Nat→Prop):Prop:=∀ j o,ops[j]?=some o→L j→∀ e∈o.after.toList,Region.binds .any e=true→L e.on
def ztU (ops:List Oper) (acc:List Nat):Prop:=∀ i,i < acc.length→∀ L:Nat→Prop,ztT ops L →
 (∀ o,ops[i]?=some o→∀ e∈o.after.toList,Region.binds .any e=true→L e.on)→∀ j,(acc.getD i 0).testBit j=true→L j
theorem zs3 {acc:List Nat} {j:Nat}:∀ {l:List Edge},(zrV acc l).testBit j=true→∃ e∈l,Region.binds .any e=true∧(j=e.on∨(acc.getD e.on 0).testBit j=true)
 | [],h=>by simp [zrV] at h
 | e :: r,h=>by
  unfold zrV at h
  rw [qh,qb] at h
  rcases h with h | h
  ·by_cases hb:Region.binds .any e=true
   ·rw [if_pos hb,qh,qb,Nat.testBit_two_pow] at h
    refine ⟨e,qg,hb,h.imp (λ h=>?_) id⟩
    exact (of_decide_eq_true h).symm
   ·rw [if_neg hb] at h;simp at h
  ·obtain ⟨e',he,hr⟩:=zs3 h
   exact ⟨e',qd _ he,hr⟩
theorem zuM {ops:List Oper} {acc:List Nat} {o:Oper} (h:ztU ops acc) (ho:ops[acc.length]?=some o):ztU ops (acc++[zrV acc o.after.toList]):=by
 intro i hi L hL hd j hj
 by_cases hlt:i < acc.length
 ·refine h i hlt L hL hd j ?_
  simpa [List.getD,List.getElem?_append_left hlt] using hj
 ·have hie:i=acc.length:=by simp at hi;omega
  subst hie
  have hj':(zrV acc o.after.toList).testBit j=true:=by simpa [List.getD] using hj
  obtain ⟨e,he,hb,hr⟩:=zs3 hj'
  have hle:=hd o ho e he hb
  rcases hr with rfl | hr
  ·exact hle
  ·by_cases h2:e.on < acc.length
   ·exact h e.on h2 L hL (λ o' ho'=>hL e.on o' ho' hle) j hr
   ·simp [List.getD,List.getElem?_eq_none (show acc.length≤e.on by omega)] at hr
theorem zuN {ops:List Oper}:∀ (l pre:List Oper) (acc:List Nat),ops=pre++l→acc.length=pre.length→ztU ops acc→ztU ops (znJ l acc)∧(znJ l acc).length=ops.length
 | [],pre,acc,h,hn,hm=>⟨hm,by simp [znJ,h,hn]⟩
 | o :: r,pre,acc,h,hn,hm=>by
  unfold znJ
  refine zuN r (pre++[o]) _ (by simp [h]) (by simp [hn]) (zuM hm ?_)
  rw [h,hn]
  simp
def zyJ (all:Array Oper) (x:Oper) (l:Nat):Prop:=∀ L:Nat→Prop,ztT all.toList L→(∀ e∈x.after.toList,Region.binds .any e=true→L e.on)→L l
def zq3 (all:Array Oper) (i:Nat) (x:Oper):Prop:=∀ (l:Nat) (o:Oper),l < i→all[l]?=some o→zk0 o.op=2→zyJ all x l
structure Chk (cf:List (Nat×Nat)) (all:Array Oper):Prop where
 one:∀ (i:Nat) (x:Oper),all[i]?=some x→zk0 x.op≠3∧∀ e∈x.after.toList,Region.binds .any e=true→e.on < i
 dst:∀ (i j:Nat) (x y:Oper),all[i]?=some x→all[j]?=some y→i≠j→∀ d,x.dst=some d→y.dst≠some d
 gd:∀ (i:Nat) (x:Oper),all[i]?=some x→zpF x.op=true→x.guard=none∨zq3 all i x
 fl:∀ (i:Nat) (x:Oper),all[i]?=some x→zBu x.op=true→zq3 all i x∨(i,i)∈cf
 use:∀ (i j:Nat) (x y:Oper),all[i]?=some x→all[j]?=some y→i < j→zpF x.op=true→(zk0 y.op=2∧(zpF y.op=true→∀ d,x.dst=some d→d∉y.looksAt all))∨zq3 all i x∨((∀ d,x.dst=some d→d∉y.looksAt all)∧(zk0 y.op=1→(j,i)∈cf))
 pair:∀ (i j:Nat) (x y:Oper),all[i]?=some x→all[j]?=some y→i < j →
  (∀ L:Nat→Prop,ztT all.toList L→(∀ e∈y.after.toList,Region.binds .any e=true→L e.on)→L i) ∨
  (x.apart all y=true∧(zk0 x.op=2→zk0 y.op=2→zpF y.op=true)∧(zk0 x.op=1→zk0 y.op=2→(i,j)∈cf)∧(zk0 x.op=2→zk0 y.op=1→(j,i)∈cf))
theorem zBw {cf:List (Nat×Nat)} {all:Array Oper} (h:chk cf all=true):Chk cf all:=by
 unfold chk at h
 rw [qc] at h
 have hmem:∀ (i:Nat) (x:Oper),all[i]?=some x→(x,i)∈all.toList.zipIdx:=λ i x hx=>by
  rw [List.mem_zipIdx_iff_getElem?]
  simpa using hx
 have hms:=zuN (ops:=all.toList) all.toList [] [] rfl rfl (λ i hi=>by simp at hi)
 have hboth:∀ (i j:Nat) (x y:Oper),all[i]?=some x→all[j]?=some y→i < j→zuL (znJ all.toList []) cf all i j x y=true∧zBv (znJ all.toList []) cf all i j x y=true:=by
  intro i j x y hx hy hij
  have:=h _ (hmem i x hx)
  rw [qa,qc] at this
  have:=this.2 _ (hmem j y hy)
  simp only [qb,qa,decide_eq_true_eq] at this
  rcases this with h | h
  ·omega
  ·exact h
 have hpb:∀ (i j:Nat) (x y:Oper),all[i]?=some x→all[j]?=some y→i < j→zuL (znJ all.toList []) cf all i j x y=true:=λ i j x y hx hy hij=>(hboth i j x y hx hy hij).1
 have hdst:∀ (i j:Nat) (x y:Oper),all[i]?=some x→all[j]?=some y→i < j→∀ d,x.dst=some d→y.dst≠some d:=by
  intro i j x y hx hy hij d hd
  have:=hpb i j x y hx hy hij
  unfold zuL at this
  rw [hd] at this
  simp only [qa,bne_iff_ne,ne_eq] at this
  exact this.1
 have hbit:∀ (i j:Nat) (y:Oper),all[j]?=some y→((znJ all.toList []).getD j 0).testBit i=true→zyJ all y i:=by
  intro i j y hy h L hL hd
  have hjlt:j < (znJ all.toList []).length:=by rw [hms.2];exact (by simpa using (Array.getElem?_eq_some_iff.1 hy).1)
  refine hms.1 j hjlt L hL (λ o ho=>?_) i h
  have:o=y:=by
   have hy':all.toList[j]?=some y:=by simpa using hy
   rw [hy'] at ho
   exact (Option.some.inj ho).symm
  rw [this]
  exact hd
 have hahead:∀ (i:Nat) (x:Oper),all[i]?=some x→zrW (znJ all.toList []) all i=true→zq3 all i x:=by
  intro i x hx ha l o hl ho hk
  unfold zrW at ha
  rw [qc] at ha
  have:=ha l (List.mem_range.2 hl)
  rw [ho] at this
  simp only [qb,bne_iff_ne,ne_eq] at this
  rcases this with h | h
  ·exact absurd hk h
  ·exact hbit l i x hx h
 refine ⟨λ i x hx=>?_,λ i j x y hx hy hij d hd=>?_,λ i x hx hal=>?_,λ i x hx hbs=>?_,λ i j x y hx hy hij hal=>?_,λ i j x y hx hy hij=>?_⟩
 ·have:=h _ (hmem i x hx)
  rw [qa] at this
  have:=this.1
  unfold zAs at this
  rw [qa,qa,qa,qc] at this
  refine ⟨by simpa using this.1.2,λ e he hb=>?_⟩
  have:=this.2 e he
  simpa [hb] using this
 ·rcases Nat.lt_or_gt_of_ne hij with hlt | hlt
  ·exact hdst i j x y hx hy hlt d hd
  ·exact λ hd'=>hdst j i y x hy hx hlt d hd' hd
 ·have:=h _ (hmem i x hx)
  rw [qa] at this
  have:=this.1
  unfold zAs at this
  rw [qa,qa,qa] at this
  have:=this.1.1.1
  simp only [hal,qe,qf,qb] at this
  rcases this with h | h
  ·left
   cases hg:x.guard with
   | none=>rfl
   | some g=>rw [hg] at h;cases h
  ·exact .inr (hahead i x hx h)
 ·have:=h _ (hmem i x hx)
  rw [qa] at this
  have:=this.1
  unfold zAs at this
  rw [qa,qa,qa] at this
  have:=this.1.1.2
  simp only [hbs,qe,qf,qb] at this
  rcases this with h | h
  ·exact .inl (hahead i x hx h)
  ·exact .inr (by simpa using h)
 ·have:=(hboth i j x y hx hy hij).2
  unfold zBv at this
  simp only [hal,qe,qf,qb,qa,beq_iff_eq,bne_iff_ne,ne_eq,Bool.not_eq_true'] at this
  rcases this with (⟨h,h1⟩ | h) | ⟨h,h2⟩
  ·refine .inl ⟨h,λ hy2 d hd hm=>?_⟩
   rcases h1 with h1 | h1
   ·rw [h1] at hy2;cases hy2
   ·rw [hd] at h1
    simp at h1
    exact h1 hm
  ·exact .inr (.inl (hahead i x hx h))
  ·refine .inr (.inr ⟨λ d hd hm=>?_,λ hk=>?_⟩)
   ·rw [hd] at h
    simp at h
    exact h hm
   ·rcases h2 with h2 | h2
    ·exact absurd hk h2
    ·simpa using h2
 ·have:=hpb i j x y hx hy hij
  unfold zuL at this
  rw [qa,qb,qa] at this
  rcases this.2 with h | ⟨h1,h2⟩
  ·exact .inl (hbit i j y hy h)
  ·right
   refine ⟨h1,λ a b=>?_,λ a b=>?_,λ a b=>?_⟩
   ·rw [a,b] at h2;exact h2
   ·rw [a,b] at h2;simpa using h2
   ·rw [a,b] at h2;simpa using h2
abbrev Log:=List (Nat×(Option Nat×HL×HL))
def zrg (cf:List (Nat×Nat)) (k:Nat):Bool:=cf.any λ p=>p.1 == k || p.2 == k
def scr:List Leaf→Prop
 | []=>True
 | .sc v :: r=>zpm v=true∧scr r
 | _=>False
def scR:List (List Leaf)→Prop
 | []=>True
 | r :: q=>scr r∧scR q
def zrq:HL→Prop
 | (_,some (_,.arr false _ rows)) :: _=>scR rows
 | _=>False
def flL:Option (Option Nat×HL×HL)→Prop
 | some (_,_,H')=>zrq H'
 | none=>True
def zoa (L:Log):List (Nat×Nat)→Prop
 | []=>True
 | (i,j) :: r=>(if i=j then flL (zkm L i) else match zkm L i,zkm L j with
  | some (some id,_,_),some (_,H,H')=>hp H id=hp H' id
  | _,_=>True)∧zoa L r
theorem zs4 {L:Log} {i j:Nat} (hij:i≠j):∀ {cf:List (Nat×Nat)},zoa L cf→(i,j)∈cf→∀ {id a b x H H'},zkm L i=some (some id,a,b)→zkm L j=some (x,H,H')→hp H id=hp H' id
 | [],_,hm,id,a,b,x,H,H',_,_=>by simp at hm
 | (i',j') :: r,h,hm,id,a,b,x,H,H',h1,h2=>by
  rcases List.mem_cons.1 hm with h' | h'
  ·cases h'
   have:=h.1
   rw [if_neg hij,h1,h2] at this
   exact this
  ·exact zs4 hij h.2 h' h1 h2
theorem zpG {L:Log} {i:Nat}:∀ {cf:List (Nat×Nat)},zoa L cf→(i,i)∈cf→flL (zkm L i)
 | [],_,hm=>by simp at hm
 | (i',j') :: r,h,hm=>by
  rcases List.mem_cons.1 hm with h' | h'
  ·cases h'
   have:=h.1
   rw [if_pos rfl] at this
   exact this
  ·exact zpG h.2 h'
def zoY (P:Program) (tab:Tab) (all:Array Oper) (cf:List (Nat×Nat)):List Oper→Nat→St→Log→(St→Prop)→Prop
  | [],_,s,L,K=>zoa L cf∧K s
  | o :: r,k,s,L,K=>match o.guard with
    | none=>zpw P tab s o λ s'=>zoY P tab all cf r (k+1) s' (bif zrg cf k then (k,(wid s.T o.op,s.H,s'.H)) :: L else L) K
    | some (j,want)=>match (all[j]?).bind (·.dst) with
      | some d=>zyF (tv s.T d) (λ b=>(b=want→zpw P tab (s.know d want) o λ s'=>zoY P tab all cf r (k+1) s' (bif zrg cf k then (k,(wid (s.know d want).T o.op,s.H,s'.H)) :: L else L) K) ∧
            (b=!want→zmf s o.dst=true∧zoY P tab all cf r (k+1) ((s.know d (!want)).put o.dst (.tu []) s.H s.nx) L K))
            (zmf s o.dst=true∧zoY P tab all cf r (k+1) (s.put o.dst (.tu []) s.H s.nx) L K)
      | none=>False
def Guarded (all:Array Oper) (s:St) (o:Oper) (sk:St):Prop:=(o.guard=none∧sk=s)∨∃ j want d,o.guard=some (j,want)∧(all[j]?).bind (·.dst)=some d∧sc? (tv s.T d)=some (.bool want)∧sk=s.know d want
def Skips (s:St) (d:Nat) (want:Bool) (s1:St):Prop:=(sc? (tv s.T d)=some (.bool (!want))∧s1=s.know d (!want))∨(tv s.T d=.tu []∧s1=s)
def Stp (P:Program) (tab:Tab) (all:Array Oper) (cf:List (Nat×Nat)) (L:Log) (k:Nat) (s:St) (o:Oper) (s':St):Prop :=
  zmf s o.dst=true ∧
  ((∃ sk lv H nx,Guarded all s o sk∧opW P tab sk o.op (Eqs lv H nx)∧s'=sk.put o.dst lv H nx∧(zrg cf k=true→zkm L k=some (wid sk.T o.op,s.H,H))) ∨
   (∃ j want d s1,o.guard=some (j,want)∧(all[j]?).bind (·.dst)=some d∧Skips s d want s1∧s'=s1.put o.dst (.tu []) s.H s.nx))
theorem zs5 {P:Program} {tab:Tab} {s:St} {o:Oper} {K:St→Prop} (hk:zk0 o.op≠3) (h:zpw P tab s o K):zmf s o.dst=true∧∃ lv H nx,K (s.put o.dst lv H nx)∧opW P tab s o.op (Eqs lv H nx):=by
 obtain ⟨h1,h2⟩:=h
 obtain ⟨lv,H,nx,hK,hw⟩:=zAr hk h2
 exact ⟨h1,lv,H,nx,hK,hw⟩
theorem zrX {P:Program} {tab:Tab} {all:Array Oper} {cf:List (Nat×Nat)} {K:St→Prop}:∀ (l:List Oper) (k:Nat) (s:St) (L:Log),zoY P tab all cf l k s L K→(∀ o∈l,zk0 o.op≠3) →
  ∃ (st:Nat→St) (L':Log),st k=s∧K (st (k+l.length))∧zoa L' cf∧(∀ i,i < k→zkm L' i=zkm L i)∧∀ p (hp:p < l.length),Stp P tab all cf L' (k+p) (st (k+p)) l[p] (st (k+p+1))
 | [],k,s,L,h,_=>⟨λ _=>s,L,rfl,h.2,h.1,λ _ _=>rfl,λ p hp=>by simp at hp⟩
 | o :: r,k,s,L,h,hk=>by
  have ho:=hk o qg
  have hr:∀ x∈r,zk0 x.op≠3:=λ x hx=>hk x (qd _ hx)
  have fin:∀ (s':St) (L2:Log),zoY P tab all cf r (k+1) s' L2 K→(∀ i,i < k→zkm L2 i=zkm L i)→(∀ L',(∀ i,i < k+1→zkm L' i=zkm L2 i)→Stp P tab all cf L' k s o s') →
    ∃ (st:Nat→St) (L':Log),st k=s∧K (st (k+(o :: r).length))∧zoa L' cf∧(∀ i,i < k→zkm L' i=zkm L i)∧∀ p (hp:p < (o :: r).length),Stp P tab all cf L' (k+p) (st (k+p)) (o :: r)[p] (st (k+p+1)):=by
   intro s' L2 h1 h2 h3
   obtain ⟨st,L',e1,e2,e3,e4,e5⟩:=zrX r (k+1) s' L2 h1 hr
   refine ⟨λ i=>if i=k then s else st i,L',by simp,?_,e3,λ i hi=>(e4 i (by omega)).trans (h2 i hi),λ p hp=>?_⟩
   ·simp only [qP]
    rw [if_neg (by omega),show k+(r.length+1)=k+1+r.length by omega]
    exact e2
   ·cases p with
    | zero =>
     simp only [Nat.add_zero,if_true,List.getElem_cons_zero]
     rw [if_neg (by omega),e1]
     exact h3 L' e4
    | succ p =>
     have:=e5 p (by simpa using hp)
     simp only [List.getElem_cons_succ]
     rw [if_neg (by omega),if_neg (by omega),show k+(p+1)=k+1+p by omega]
     exact this
  unfold zoY at h
  split at h
  ·rename_i hg
   obtain ⟨hd,lv,H,nx,hK,hw⟩:=zs5 ho h
   refine fin _ _ hK (λ i hi=>?_) λ L' hL'=>⟨hd,.inl ⟨s,lv,H,nx,.inl ⟨hg,rfl⟩,hw,rfl,λ hc=>?_⟩⟩
   ·cases zrg cf k
    ·rfl
    ·simp only [cond_true,zkm];rw [if_neg (by omega)]
   ·rw [hL' k (by omega),hc]
    simp [zkm,St.put]
  ·rename_i j want hg
   split at h
   ·rename_i d hd'
    rcases zwG h with ⟨hu,h⟩ | ⟨b,hb,h⟩
    ·exact fin _ _ h.2 (λ i hi=>rfl) λ L' hL'=>⟨h.1,.inr ⟨j,want,d,s,hg,hd',.inr ⟨hu,rfl⟩,rfl⟩⟩
    ·by_cases hbw:b=want
     ·subst hbw
      obtain ⟨hd,lv,H,nx,hK,hw⟩:=zs5 ho (h.1 rfl)
      refine fin _ _ hK (λ i hi=>?_) λ L' hL'=>⟨hd,.inl ⟨s.know d b,lv,H,nx,.inr ⟨j,b,d,hg,hd',hb,rfl⟩,hw,rfl,λ hc=>?_⟩⟩
      ·cases zrg cf k
       ·rfl
       ·simp only [cond_true,zkm];rw [if_neg (by omega)]
      ·rw [hL' k (by omega),hc]
       simp [zkm,St.put]
     ·have hb2:b=!want:=by cases b<;>cases want<;>simp_all
      obtain ⟨h1,h2⟩:=h.2 hb2
      exact fin _ _ h2 (λ i hi=>rfl) λ L' hL'=>⟨h1,.inr ⟨j,want,d,_,hg,hd',.inl ⟨by rw [hb,hb2],rfl⟩,rfl⟩⟩
   ·exact h.elim
end Go.TL

import Derived.Test.YteonagfnhdlfcaaGreatDoorTlDraw2
open List renaming length_append → qM, length_map → qO, length_cons → qP, flatten_cons → qb, getElem_map → qg, getElem_mem → qh
open Nat renaming lt_or_ge → qa, lt_of_not_le → qc, lt_succ_self → qd, add_mul → qf, le_refl → qi
open Bool renaming or_eq_false_iff → qe
set_option linter.unusedSimpArgs false
set_option linter.unusedVariables false
noncomputable section
namespace Go.TL
open Go
theorem zwH (op:Op):zk0 op≤3:=by
 cases op<;>simp only [zk0]<;>(try omega)
 all_goals (split<;>omega)
theorem zwJ {w:World} {c:Ctx} {s:St} {d t:Nat} {b:Bool} {v:Value} (h:Cv w c (tv s.T t) v) (hb:sc? (tv s.T d)=some (.bool b)):Cv w c (tv (s.know d b).T t) v:=by
 unfold St.know
 simp only [zwF]
 by_cases e:t=d
 ·subst e
  rw [if_pos rfl,(zl3 hb h).1]
  exact .lf (.sc rfl)
 ·rw [if_neg e]
  exact h
theorem zs6 {s:St} {dst:Option Nat} {lv:LV} {H:HL} {nx t:Nat} (h:dst≠some t):tv (s.put dst lv H nx).T t=tv s.T t:=by
 cases dst with
 | none=>rfl
 | some d =>
  unfold St.put tv
  simp only [zkm]
  rw [if_neg λ e=>h (by rw [e])]
theorem zob {s:St} {lv:LV} {H:HL} {nx t:Nat}:tv (s.put (some t) lv H nx).T t=lv:=by
 unfold St.put tv
 simp only [zkm,if_true,Option.getD_some]
theorem Guarded.same {all:Array Oper} {s sk:St} {o:Oper} (h:Guarded all s o sk):sk.H=s.H∧sk.nx=s.nx∧sk.nt=s.nt:=by
 rcases h with ⟨_,rfl⟩ | ⟨j,want,d,_,_,_,rfl⟩
 ·exact ⟨rfl,rfl,rfl⟩
 ·exact ⟨rfl,rfl,rfl⟩
theorem Guarded.cv {all:Array Oper} {s sk:St} {o:Oper} (h:Guarded all s o sk) {w:World} {c:Ctx} {t:Nat} {v:Value} (hv:Cv w c (tv s.T t) v):Cv w c (tv sk.T t) v:=by
 rcases h with ⟨_,rfl⟩ | ⟨j,want,d,_,_,hb,rfl⟩
 ·exact hv
 ·exact zwJ hv hb
theorem Skips.same {s s1:St} {d:Nat} {want:Bool} (h:Skips s d want s1):s1.H=s.H∧s1.nx=s.nx∧s1.nt=s.nt:=by
 rcases h with ⟨_,rfl⟩ | ⟨_,rfl⟩<;>exact ⟨rfl,rfl,rfl⟩
theorem Skips.cv {s s1:St} {d:Nat} {want:Bool} (h:Skips s d want s1) {w:World} {c:Ctx} {t:Nat} {v:Value} (hv:Cv w c (tv s.T t) v):Cv w c (tv s1.T t) v:=by
 rcases h with ⟨hb,rfl⟩ | ⟨_,rfl⟩
 ·exact zwJ hv hb
 ·exact hv
theorem Skips.not {s s1:St} {d:Nat} {want:Bool} (h:Skips s d want s1) {all:Array Oper} {j:Nat} {w:World} {c:Ctx} {tmps:Array Value} (hd:(all[j]?).bind (·.dst)=some d) (hv:Cv w c (tv s.T d) (tmps.getD d undef)):yielded all tmps j≠some want:=by
 rcases h with ⟨hb,_⟩ | ⟨hu,_⟩
 ·rw [zpE hd (zl3 hb hv).1]
  cases want<;>simp
 ·rw [hu] at hv
  rw [zp2 hd (zuH hv)]
  simp
section
variable {P:Program} {tab:Tab} {all:Array Oper} {cf:List (Nat×Nat)} {L:Log} {k:Nat} {s s':St} {o:Oper}
theorem Stp.nt (h:Stp P tab all cf L k s o s'):s'.nt=s.nt:=by
 rcases h.2 with ⟨sk,lv,H,nx,hg,_,rfl,_⟩ | ⟨j,want,d,s1,_,_,hs,rfl⟩
 ·exact hg.same.2.2
 ·exact hs.same.2.2
theorem Stp.quiet (h:Stp P tab all cf L k s o s') (h2:zk0 o.op≠2) (h3:zk0 o.op≠3):s'.H=s.H∧s'.nx=s.nx:=by
 have hk:zk0 o.op≤1:=by have:=zwH o.op;omega
 rcases h.2 with ⟨sk,lv,H,nx,hg,hw,rfl,_⟩ | ⟨j,want,d,s1,_,_,_,rfl⟩
 ·have:=(zuK (s':=sk) hk hw (λ _ _=>rfl) (λ _ _=>rfl)).1
  exact ⟨this.1.trans hg.same.1,this.2.trans hg.same.2.1⟩
 ·exact ⟨rfl,rfl⟩
theorem Stp.keepT (h:Stp P tab all cf L k s o s') {t:Nat} (hd:o.dst≠some t) {w:World} {c:Ctx} {v:Value} (hv:Cv w c (tv s.T t) v):Cv w c (tv s'.T t) v:=by
 rcases h.2 with ⟨sk,lv,H,nx,hg,hw,rfl,_⟩ | ⟨j,want,d,s1,_,_,hs,rfl⟩
 ·rw [zs6 hd];exact hg.cv hv
 ·rw [zs6 hd];exact hs.cv hv
end
structure Run (P:Program) (tab:Tab) (all:Array Oper) (cf:List (Nat×Nat)) (L:Log) (st:Nat→St):Prop where
 chk:Chk cf all
 log:zoa L cf
 stp:∀ (i:Nat) (o:Oper),all[i]?=some o→Stp P tab all cf L i (st i) o (st (i+1))
section
variable {P:Program} {tab:Tab} {all:Array Oper} {cf:List (Nat×Nat)} {L:Log} {st:Nat→St}
theorem there {i:Nat} (h:i < all.size):∃ o,all[i]?=some o:=⟨all[i],by simp [h]⟩
theorem znK {i:Nat} {o:Oper} (h:all[i]?=some o):i < all.size:=(Array.getElem?_eq_some_iff.1 h).1
theorem Run.nt (r:Run P tab all cf L st):∀ m,m≤all.size→(st m).nt=(st 0).nt
 | 0,_=>rfl
 | m+1,h=>by
  obtain ⟨o,ho⟩:=there (all:=all) (i:=m) (by omega)
  rw [(r.stp m o ho).nt,Run.nt r m (by omega)]
theorem Run.idle (r:Run P tab all cf L st) {a:Nat}:∀ n,a+n≤all.size→(∀ (j:Nat) (o:Oper),a≤j→j < a+n→all[j]?=some o→zk0 o.op≠2)→(st (a+n)).H=(st a).H∧(st (a+n)).nx=(st a).nx
 | 0,_,_=>⟨rfl,rfl⟩
 | n+1,h,hq=>by
  obtain ⟨o,ho⟩:=there (all:=all) (i:=a+n) (by omega)
  have ih:=Run.idle r n (by omega) λ j o h1 h2=>hq j o h1 (by omega)
  have:=(r.stp _ o ho).quiet (hq _ o (by omega) (by omega) ho) (r.chk.one _ o ho).1
  exact ⟨this.1.trans ih.1,this.2.trans ih.2⟩
theorem Run.idle' (r:Run P tab all cf L st) {a b:Nat} (hab:a≤b) (hb:b≤all.size) (hq:∀ (j:Nat) (o:Oper),a≤j→j < b→all[j]?=some o→zk0 o.op≠2):(st b).H=(st a).H∧(st b).nx=(st a).nx:=by
 have:=r.idle (a:=a) (b - a) (by omega) λ j o h1 h2=>hq j o h1 (by omega)
 rwa [show a+(b - a)=b by omega] at this
theorem Run.kept (r:Run P tab all cf L st) {a id:Nat}:∀ n,a+n≤all.size→(∀ (j:Nat) (o:Oper),a≤j→j < a+n→all[j]?=some o→zk0 o.op=2→hp (st j).H id=hp (st (j+1)).H id)→hp (st a).H id=hp (st (a+n)).H id
 | 0,_,_=>rfl
 | n+1,h,hq=>by
  obtain ⟨o,ho⟩:=there (all:=all) (i:=a+n) (by omega)
  have ih:=Run.kept r n (by omega) λ j o h1 h2=>hq j o h1 (by omega)
  rw [ih]
  by_cases hk:zk0 o.op=2
  ·exact hq _ o (by omega) (by omega) ho hk
  ·have:=(r.stp _ o ho).quiet hk (r.chk.one _ o ho).1
   rw [show a+(n+1)=a+n+1 by omega,this.1]
theorem Run.kept' (r:Run P tab all cf L st) {a b id:Nat} (hab:a≤b) (hb:b≤all.size) (hq:∀ (j:Nat) (o:Oper),a≤j→j < b→all[j]?=some o→zk0 o.op=2→hp (st j).H id=hp (st (j+1)).H id):hp (st a).H id=hp (st b).H id:=by
 have:=r.kept (a:=a) (id:=id) (b - a) (by omega) λ j o h1 h2=>hq j o h1 (by omega)
 rwa [show a+(b - a)=b by omega] at this
theorem Run.lasts (r:Run P tab all cf L st) {a t:Nat} {w:World} {c:Ctx} {v:Value} (hv:Cv w c (tv (st a).T t) v):∀ n,a+n≤all.size→(∀ (j:Nat) (o:Oper),a≤j→j < a+n→all[j]?=some o→o.dst≠some t)→Cv w c (tv (st (a+n)).T t) v
 | 0,_,_=>hv
 | n+1,h,hq=>by
  obtain ⟨o,ho⟩:=there (all:=all) (i:=a+n) (by omega)
  have ih:=Run.lasts r hv n (by omega) λ j o h1 h2=>hq j o h1 (by omega)
  exact (r.stp _ o ho).keepT (hq _ o (by omega) (by omega) ho) ih
theorem zvZ {i j:Nat} (h:(i,j)∈cf):zrg cf i=true:=List.any_eq_true.2 ⟨_,h,by simp⟩
theorem zBx {i j:Nat} (h:(i,j)∈cf):zrg cf j=true:=List.any_eq_true.2 ⟨_,h,by simp⟩
theorem Run.apart (r:Run P tab all cf L st) {i j id:Nat} {oi oj:Oper} (hi:all[i]?=some oi) (hj:all[j]?=some oj) (hm:(i,j)∈cf) {sk:St} {lv:LV} {H:HL} {nx:Nat}
  (hlog:zrg cf i=true→zkm L i=some (wid sk.T oi.op,(st i).H,H)) (hid:wid sk.T oi.op=some id):hp (st j).H id=hp (st (j+1)).H id:=by
 by_cases hij:i=j
 ·subst hij
  rw [hi] at hj
  cases hj
  have hk1:zk0 oi.op=1:=by
   cases hop:oi.op<;>rw [hop] at hid<;>simp [wid] at hid<;>rfl
  have:=(r.stp i oi hi).quiet (by omega) (by omega)
  rw [this.1]
 have h1:=hlog (zvZ hm)
 rw [hid] at h1
 rcases (r.stp j oj hj).2 with ⟨sj,lvj,Hj,nxj,hg,hw,he,hl⟩ | ⟨_,_,_,_,_,_,_,he⟩
 ·have h2:=hl (zBx hm)
  have:=zs4 hij r.log hm h1 h2
  rw [this,he]
  rfl
 ·rw [he];rfl
def li (listed:Array Bool) (i:Nat):Prop:=listed.getD i false=true
structure Mk where
 zs:List Value
 rv:Nat→Value
 lv:Nat→LV
 ob:Ob
def zq4:List LV→Option (List Value)
 | []=>some []
 | .lf false (.sc v) :: r=>if zpm v=true then (zq4 r).map (v :: ·) else none
 | _=>none
def zni (T:List (Nat×LV)) (es:Nat):List (Nat×Operand)→Option (List (List Value))
 | []=>some []
 | (_,x) :: r=>match zlh (ev T x),zni T es r with
  | some ks,some l=>match zq4 ks with
   | some vs=>if vs.length=es then some (vs :: l) else none
   | none=>none
  | _,_=>none
def mkE (tab:Tab) (T:List (Nat×LV)):Op→Option Mk
 | .alloc t=>match zkm tab t with
  | some e=>some ⟨e.zero,λ b=>.pointer (some ⟨b,0,none⟩),λ id=>.pb id 0,.box (e.zero.map zlg)⟩
  | none=>none
 | .buildSlice t len parts=>match zkm tab t with
  | some e=>match e.sh with
   | .slice el=>match zkm tab el with
    | some ee=>match zni T ee.size parts.toList with
     | some vss=>if parts.toList.map (·.1)=List.range len∧len * ee.size≤16777216∧len≤16777216∧vss.length=len then some ⟨vss.flatten,λ b=>.slice (some ⟨b,0,none⟩) len len,λ id=>.os id ee.size 0 len len true,.arr false ee.size (vss.map λ r=>r.map .sc)⟩ else none
     | none=>none
    | none=>none
   | _=>none
  | _=>none
 | _=>none
def zer (tab:Tab) (s:St) (o:Oper):List Value:=match mkE tab s.T o.op with
 | some m=>m.zs
 | none=>[]
def mkV (tab:Tab) (s:St) (o:Oper) (b:Nat):Value:=match mkE tab s.T o.op with
 | some m=>m.rv b
 | none=>undef
structure Inv (tab:Tab) (all:Array Oper) (st:Nat→St) (w0:World) (W0:Fr) (c0:Ctx) (listed:Array Bool) (a:Act) (w:World) (c:Ctx) (k:Nat) (E:Nat→Nat→Option Value) (bl:Nat→Nat):Prop where
 sz:listed.size=all.size
 cl:ztT all.toList (li listed)
 le:c0.Le c
 kN:k≤all.size
 nx:c.nx=(st k).nx
 sit:Sit w0 ⟨W0.w,E⟩ c (hp (st k).H) w
 res:∀ b i v,W0.e b i=some v→E b i=some v
 loud:∀ (j:Nat) (o:Oper),all[j]?=some o→zk0 o.op=2→j < k→li listed j
 ea:∀ (j:Nat) (o:Oper),all[j]?=some o→zk0 o.op=2→li listed j→k≤j→zpF o.op=true∧¬ zq3 all j o∧(∀ i (hi:i < (zer tab (st j) o).length),E (bl j) i=some ((zer tab (st j) o)[i])) ∧
  (∀ d,o.dst=some d→a.tmps.getD d undef=mkV tab (st j) o (bl j))∧(∀ i,W0.e (bl j) i=none)∧(zer tab (st j) o≠[]→∀ i u,E (bl j) i=some u→i < (zer tab (st j) o).length)
 inj:∀ (j j':Nat) (o o':Oper),all[j]?=some o→all[j']?=some o'→zk0 o.op=2→zk0 o'.op=2→li listed j→li listed j'→k≤j→k≤j'→j≠j'→zer tab (st j) o≠[]→zer tab (st j') o'≠[]→bl j≠bl j'
 v1:∀ (j:Nat) (o:Oper),all[j]?=some o→li listed j→(zk0 o.op=2→j < k)→∀ d,o.dst=some d→∀ m,j < m→m≤all.size→Cv w c (tv (st m).T d) (a.tmps.getD d undef)
 v2:∀ t,(∀ (j:Nat) (o:Oper),all[j]?=some o→li listed j→o.dst≠some t)→∀ m,m≤all.size→(∀ (j:Nat) (o:Oper),all[j]?=some o→j < m→o.dst≠some t)→Cv w c (tv (st m).T t) (a.tmps.getD t undef)
 tsz:a.tmps.size=(st 0).nt
 df:a.defers=[]
def zq5 (listed:Array Bool) (o:Oper):Prop:=∀ e∈o.after.toList,Region.binds .any e=true→li listed e.on
section
variable {w0:World} {W0:Fr} {c0:Ctx} {listed:Array Bool} {a:Act} {w:World} {c:Ctx} {k:Nat} {E:Nat→Nat→Option Value} {bl:Nat→Nat}
theorem Inv.reach (v:Inv tab all st w0 W0 c0 listed a w c k E bl) {j:Nat} {o:Oper} (hj:all[j]?=some o) (h:li listed j):zq5 listed o :=
 v.cl j o (by simpa using hj) h
theorem Inv.operand (r:Run P tab all cf L st) (v:Inv tab all st w0 W0 c0 listed a w c k E bl) {i:Nat} {o:Oper} (hi:all[i]?=some o) (hu:¬ li listed i) (hr:zq5 listed o)
  (hq:zk0 o.op=2→zpF o.op=true∨∀ (j:Nat) (oj:Oper),k≤j→j < i→all[j]?=some oj→zk0 oj.op≠2)
  {t:Nat} (ht:t∈o.looksAt all):Cv w c (tv (st i).T t) (a.tmps.getD t undef):=by
 have hiN:=znK hi
 by_cases hw:∃ (j:Nat) (oj:Oper),all[j]?=some oj∧li listed j∧oj.dst=some t
 ·obtain ⟨j,oj,hj,hlj,hd⟩:=hw
  have hne:j≠i:=λ e=>hu (e ▸ hlj)
  rcases Nat.lt_or_gt_of_ne hne with hlt | hgt
  ·refine v.v1 j oj hj hlj (λ hk2=>?_) t hd i hlt (by omega)
   refine qc λ hkj=>?_
   obtain ⟨e1,e2,_⟩:=v.ea j oj hj hk2 hlj hkj
   rcases r.chk.use j i oj o hj hi hlt e1 with h | h | h
   ·rcases hq h.1 with h1 | h1
    ·exact h.2 h1 t hd ht
    ·exact h1 j oj hkj hlt hj hk2
   ·exact e2 h
   ·exact h.1 t hd ht
  ·rcases r.chk.pair i j o oj hi hj hgt with h | ⟨h,_⟩
   ·exact absurd (h _ v.cl (v.reach hj hlj)) hu
   ·exact absurd ht ((Oper.apart_spec h).2.2 t hd)
 ·refine v.v2 t (λ j oj hj hlj hd=>hw ⟨j,oj,hj,hlj,hd⟩) i (by omega) λ j oj hj hlt hd=>?_
  rcases r.chk.pair j i oj o hj hi hlt with h | ⟨h,_⟩
  ·exact hw ⟨j,oj,hj,h _ v.cl hr,hd⟩
  ·exact absurd ht ((Oper.apart_spec h).1 t hd)
theorem Inv.loudAt (r:Run P tab all cf L st) (v:Inv tab all st w0 W0 c0 listed a w c k E bl) {i:Nat} {o:Oper} (hi:all[i]?=some o) (hu:¬ li listed i) (hr:zq5 listed o)
  (hk:zk0 o.op=2):k≤i∧((∀ (j:Nat) (oj:Oper),j < i→all[j]?=some oj→zk0 oj.op=2→li listed j)∨(zpF o.op=true∧¬ zq3 all i o)):=by
 have h1:k≤i:=by
  rcases qa i k with h | h
  ·exact absurd (v.loud i o hi hk h) hu
  ·exact h
 refine ⟨h1,?_⟩
 by_cases hall:∀ (j:Nat) (oj:Oper),j < i→all[j]?=some oj→zk0 oj.op=2→li listed j
 ·exact .inl hall
 ·right
  refine ⟨?_,λ hA=>hall λ j oj hji hj hkj=>hA j oj hji hj hkj _ v.cl hr⟩
  refine Classical.byContradiction λ hna=>hall λ j oj hji hj hkj=>?_
  rcases r.chk.pair j i oj o hj hi hji with h | ⟨_,h,_⟩
  ·exact h _ v.cl hr
  ·exact absurd (h hkj hk) hna
theorem Inv.readAt (r:Run P tab all cf L st) (v:Inv tab all st w0 W0 c0 listed a w c k E bl) {i:Nat} {o:Oper} (hi:all[i]?=some o) (hu:¬ li listed i) (hr:zq5 listed o)
  (hk:zk0 o.op=1) {sk:St} {H:HL} (hlog:zrg cf i=true→zkm L i=some (wid sk.T o.op,(st i).H,H)) {id:Nat} (hid:wid sk.T o.op=some id):hp (st k).H id=hp (st i).H id:=by
 have hiN:=znK hi
 rcases Nat.le_total k i with hle | hle
 ·refine r.kept' hle (by omega) λ j oj h1 h2 hj hk2=>?_
  rcases r.chk.pair j i oj o hj hi h2 with h | ⟨_,_,_,h⟩
  ·have hlj:=h _ v.cl hr
   obtain ⟨e1,e2,_⟩:=v.ea j oj hj hk2 hlj h1
   rcases r.chk.use j i oj o hj hi h2 e1 with g | g | g
   ·omega
   ·exact absurd g e2
   ·exact r.apart (nx:=0) (lv:=.un) hi hj (g.2 hk) hlog hid
  ·exact r.apart (nx:=0) (lv:=.un) hi hj (h hk2 hk) hlog hid
 ·refine (r.kept' hle v.kN λ j oj h1 h2 hj hk2=>?_).symm
  have hij:i < j:=by
   rcases qa i j with h | h
   ·exact h
   ·have:i=j:=by omega
    subst this
    rw [hi] at hj;cases hj;omega
  have hlj:=v.loud j oj hj hk2 h2
  rcases r.chk.pair i j o oj hi hj hij with h | ⟨_,_,h,_⟩
  ·exact absurd (h _ v.cl (v.reach hj hlj)) hu
  ·exact r.apart (nx:=0) (lv:=.un) hi hj (h hk hk2) hlog hid
end
theorem zv0 {listed:Array Bool} {i j:Nat} (h:i < listed.size):li (listed.setIfInBounds i true) j↔(j=i∨li listed j):=by
 unfold li
 simp only [Array.getD_eq_getD_getElem?,Array.getElem?_setIfInBounds]
 by_cases e:i=j
 ·subst e;simp [h]
 ·rw [if_neg e]
  constructor
  ·exact .inr
  ·rintro (h | h)
   ·exact absurd h.symm e
   ·exact h
theorem zqt {a:Act} {dst:Option Nat} {v:Value} {t:Nat} (h:dst≠some t):(a.put dst v).tmps.getD t undef=a.tmps.getD t undef:=by
 cases dst with
 | none=>rfl
 | some d =>
  simp only [Act.put,Array.getD_eq_getD_getElem?,Array.getElem?_setIfInBounds]
  rw [if_neg λ e=>h (by rw [e])]
theorem zyK {a:Act} {v:Value} {t:Nat} (h:t < a.tmps.size):(a.put (some t) v).tmps.getD t undef=v:=by
 simp [Act.put,h]
section
variable {w0:World} {W0:Fr} {c0:Ctx} {listed:Array Bool} {a:Act} {w:World} {c:Ctx} {k:Nat} {E:Nat→Nat→Option Value} {bl:Nat→Nat}
theorem Inv.step (r:Run P tab all cf L st) (v:Inv tab all st w0 W0 c0 listed a w c k E bl) {i:Nat} {o:Oper} (hi:all[i]?=some o) (hu:¬ li listed i) (hr:zq5 listed o)
  {w':World} {c':Ctx} {k':Nat} {x:Value} (hle:c.Le c') (hsame:Same c w w')
  (hk:(zk0 o.op=2∧k'=i+1∧k≤i∧∀ (j:Nat) (oj:Oper),k≤j→j < i→all[j]?=some oj→zk0 oj.op≠2)∨(zk0 o.op≠2∧k'=k)) (hnx:c'.nx=(st k').nx) (hsit:Sit w0 ⟨W0.w,E⟩ c' (hp (st k').H) w')
  (hx:∀ d,o.dst=some d→Cv w' c' (tv (st (i+1)).T d) x):Inv tab all st w0 W0 c0 (listed.setIfInBounds i true) (a.put o.dst x) w' c' k' E bl:=by
 have hiN:=znK hi
 have hset:∀ j,li (listed.setIfInBounds i true) j↔(j=i∨li listed j):=λ j=>zv0 (by rw [v.sz];exact hiN)
 have hdt:∀ d,o.dst=some d→d < a.tmps.size:=λ d hd=>by
  have:=(r.stp i o hi).1
  rw [hd] at this
  simp only [zmf,decide_eq_true_eq] at this
  rw [v.tsz,← r.nt i (by omega)]
  exact this
 have hkk:k≤k':=by rcases hk with ⟨_,rfl,h,_⟩ | ⟨_,rfl⟩<;>omega
 have hea:∀ (j:Nat) (oj:Oper),all[j]?=some oj→zk0 oj.op=2→li (listed.setIfInBounds i true) j→k'≤j→j≠i∧li listed j∧k≤j:=by
  intro j oj hj hk2 hl hkj
  have hne:j≠i:=by
   rintro rfl
   rcases hk with ⟨_,rfl,_⟩ | ⟨h,_⟩
   ·omega
   ·rw [hi] at hj;cases hj;exact h hk2
  exact ⟨hne,((hset j).1 hl).resolve_left hne,by omega⟩
 refine ⟨by simpa using v.sz,λ j oj hj hlj e he hb=>?_,v.le.trans hle,?_,hnx,hsit,v.res,λ j oj hj hk2 hlt=>?_,λ j oj hj hk2 hl hkj=>?_,λ j j' oj oj' hj hj' hk2 hk2' hl hl' hkj hkj' hne z z'=>?_,λ j oj hj hlj hkl d hd m hjm hm=>?_,λ t ht m hm hw=>?_,?_,?_⟩
 ·refine (hset _).2 (.inr ?_)
  rcases (hset j).1 hlj with rfl | h
  ·have:oj=o:=by
    have hj':all[j]?=some oj:=by simpa using hj
    rw [hi] at hj';exact (Option.some.inj hj').symm
   subst this
   exact hr e he hb
  ·exact v.cl j oj hj h e he hb
 ·rcases hk with ⟨_,rfl,_⟩ | ⟨_,rfl⟩
  ·omega
  ·exact v.kN
 ·rw [hset]
  rcases hk with ⟨h2,rfl,hki,hq⟩ | ⟨h2,rfl⟩
  ·by_cases e:j=i
   ·exact .inl e
   ·right
    rcases qa j k with hl | hge
    ·exact v.loud j oj hj hk2 hl
    ·exact absurd hk2 (hq j oj hge (by omega) hj)
  ·exact .inr (v.loud j oj hj hk2 hlt)
 ·obtain ⟨hne,hl',hkj'⟩:=hea j oj hj hk2 hl hkj
  obtain ⟨e1,e2,e3,e4,e5⟩:=v.ea j oj hj hk2 hl' hkj'
  refine ⟨e1,e2,e3,λ d hd=>?_,e5⟩
  rw [zqt λ h=>r.chk.dst i j o oj hi hj (Ne.symm hne) d h hd]
  exact e4 d hd
 ·obtain ⟨_,h1,h2⟩:=hea j oj hj hk2 hl hkj
  obtain ⟨_,h3,h4⟩:=hea j' oj' hj' hk2' hl' hkj'
  exact v.inj j j' oj oj' hj hj' hk2 hk2' h1 h3 h2 h4 hne z z'
 ·rcases Classical.em (j=i) with rfl | hji
  ·rw [hi] at hj
   cases hj
   rw [hd,zyK (hdt d hd)]
   have:=r.lasts (hx d hd) (m - (j+1)) (by omega) λ j' o' h1 h2 hj' hd'=>by
    exact r.chk.dst j j' o o' hi hj' (by omega) d hd hd'
   rwa [show j+1+(m - (j+1))=m by omega] at this
  ·have h:=((hset j).1 hlj).resolve_left hji
   have hne:o.dst≠some d:=λ hd'=>r.chk.dst i j o oj hi hj (Ne.symm hji) d hd' hd
   rw [zqt hne]
   refine (v.v1 j oj hj h (λ h2=>?_) d hd m hjm hm).mono hle hsame
   have:=hkl h2
   rcases hk with ⟨_,rfl,hki,hq⟩ | ⟨_,rfl⟩
   ·refine qc λ hge=>hq j oj hge (by omega) hj h2
   ·exact this
 ·have hne:o.dst≠some t:=ht i o hi ((hset i).2 (.inl rfl))
  rw [zqt hne]
  exact (v.v2 t (λ j oj hj h=>ht j oj hj ((hset j).2 (.inr h))) m hm hw).mono hle hsame
 ·rw [← v.tsz]
  cases o.dst<;>simp [Act.put]
 ·rw [← v.df]
  cases o.dst<;>rfl
theorem Sit.claim {w0 w:World} {W:zkF} {E:Nat→Nat→Option Value} {c:Ctx} {H:zkO} (s:Sit w0 ⟨W,E⟩ c H w) {b0:Nat} {zs:List Value} (hz:∀ i (hi:i < zs.length),E b0 i=some (zs[i])) (hb0:zs=[]→w0.heap.size≤b0∨True) (hE:zs≠[]→∀ i u,E b0 i=some u→i < zs.length)
  {ob:Ob} (hh:(∀ j (hj:j < zs.length),w.cell? ⟨b0,0+j,none⟩=some (zs[j])∧w.frozen? ⟨b0,0+j,none⟩=false)→Holds w (c.push (Loc.flat (b0) (0) (zs.length))) (Loc.flat (b0) (0) (zs.length)) ob) :
  Sit w0 ⟨W,λ b i=>if b=b0∧i < zs.length then none else E b i⟩ (c.push (Loc.flat (b0) (0) (zs.length))) (TL.upd H c.nx (some (true,ob))) w:=by
 have hlt:∀ i oi,H i=some oi→i < c.nx:=λ i oi hi=>(s.own i oi hi).1
 have hr:∀ b k,inR (Loc.flat b0 0 zs.length) b k→∃ v,E b 0=some v:=λ b k h=>by
  obtain ⟨rfl,h2⟩:=zlE h
  exact ⟨_,hz 0 h2⟩
 refine ⟨s.keep,λ i oi hi=>?_,λ i j oi oj hi hj hij b l l' hb=>?_,λ i oi hi b j hb=>?_,s.old,s.new,λ b j v he=>?_,λ i oi hi b j hb k'=>?_,λ i oi hi x hx=>?_⟩
 ·by_cases e:i=c.nx
  ·subst e
   rw [zlf] at hi
   cases hi
   refine ⟨qd _,?_⟩
   rw [Ctx.push_loc]
   refine hh λ j hj=>?_
   obtain ⟨_,_,r3,r4,_⟩:=s.res b0 j _ (hz j hj)
   exact ⟨by simpa using r3,r4 _⟩
  ·rw [zle _ _ e] at hi
   refine ⟨Nat.lt_of_lt_of_le (hlt i oi hi) (Nat.le_succ _),?_⟩
   rw [c.push_lt _ (hlt i oi hi)]
   exact (s.own i oi hi).2.mono (c.le_push _) (.refl _ _) λ _ _ _=>⟨rfl,rfl⟩
 ·by_cases ei:i=c.nx
  ·subst ei
   rw [Ctx.push_loc] at hb
   rw [zle _ _ (Ne.symm hij)] at hj
   rw [c.push_lt _ (hlt _ _ hj)]
   obtain ⟨u,hu⟩:=hr b l hb
   exact (s.res b 0 u hu).2.2.2.2 j oj hj l'
  ·rw [zle _ _ ei] at hi
   rw [c.push_lt _ (hlt _ _ hi)] at hb
   by_cases ej:j=c.nx
   ·subst ej
    rw [Ctx.push_loc]
    intro hb'
    obtain ⟨u,hu⟩:=hr b l' hb'
    exact (s.res b 0 u hu).2.2.2.2 i oi hi l hb
   ·rw [zle _ _ ej] at hj
    rw [c.push_lt _ (hlt _ _ hj)]
    exact s.dis i j _ _ hi hj hij b l l' hb
 ·by_cases e:i=c.nx
  ·subst e
   rw [Ctx.push_loc] at hb
   obtain ⟨u,hu⟩:=hr b j hb
   obtain ⟨r1,r2,_⟩:=s.res b 0 u hu
   exact ⟨λ k2 hf=>by have:=(s.old b k2 hf).1;omega,r2,.inr r1⟩
  ·rw [zle _ _ e] at hi
   rw [c.push_lt _ (hlt _ _ hi)] at hb
   exact s.sep i oi hi b j hb
 ·have he':(if b=b0∧j < zs.length then none else E b j)=some v:=he
  by_cases hc:b=b0∧j < zs.length
  ·rw [if_pos hc] at he';cases he'
  rw [if_neg hc] at he'
  obtain ⟨r1,r2,r3,r4,r5⟩:=s.res b j v he'
  refine ⟨r1,r2,r3,r4,λ i oi hi=>?_⟩
  by_cases e:i=c.nx
  ·subst e
   rw [Ctx.push_loc]
   exact λ k2 hk2=>by
    obtain ⟨h1,h2⟩:=zlE hk2
    exact hc ⟨h1,hE (λ hz0=>by rw [hz0] at h2;simp at h2) j v (by rw [← h1];exact he')⟩
  ·rw [zle _ _ e] at hi
   rw [c.push_lt _ (hlt _ _ hi)]
   exact r5 i oi hi
 ·by_cases e:i=c.nx
  ·subst e
   rw [Ctx.push_loc] at hb
   obtain ⟨u,hu⟩:=hr b j hb
   exact (s.res b 0 u hu).2.2.2.1 k'
  ·rw [zle _ _ e] at hi
   rw [c.push_lt _ (hlt _ _ hi)] at hb
   exact s.pl i oi hi b j hb k'
 ·by_cases e:i=c.nx
  ·subst e
   rw [Ctx.push_loc] at hx
   exact hx.elim
  ·rw [zle _ _ e] at hi
   rw [c.push_lt _ (hlt _ _ hi)] at hx
   exact s.mo i oi hi x hx
theorem zuO:∀ {ks:List LV} {ls:List Leaf},zlG ks=some (false,ls)→scr ls→∃ vs,zq4 ks=some vs∧ls=vs.map .sc
 | [],ls,h,_=>by cases h;exact ⟨[],rfl,rfl⟩
 | lv :: r,ls,h,hs=>by
  unfold zlG at h
  split at h
  ·rename_i t l u ls' h1 h2
   simp only [Option.some.injEq,Prod.mk.injEq,qe] at h
   obtain ⟨⟨rfl,rfl⟩,rfl⟩:=h
   cases l with
   | sc v =>
    obtain ⟨hv,hs⟩:=hs
    obtain ⟨vs,g1,g2⟩:=zuO h2 hs
    unfold zsU at h1
    split at h1
    ·cases h1
     refine ⟨v :: vs,?_,by rw [g2];rfl⟩
     unfold zq4
     rw [if_pos hv,g1]
     rfl
    ·cases h1
    ·cases h1
   | sl rows=>exact hs.elim
   | raw v=>exact hs.elim
  ·cases h
theorem zqu:∀ {ks:List LV} {vs:List Value},zq4 ks=some vs→vs.length=ks.length∧∀ j (hj:j < ks.length) (hj':j < vs.length),ks[j]=.lf false (.sc (vs[j]))∧zpm (vs[j])=true
 | [],vs,h=>by cases h;exact ⟨rfl,λ j hj=>by simp at hj⟩
 | lv :: r,vs,h=>by
  unfold zq4 at h
  split at h
  ·rename_i h0;cases h0
  ·rename_i v r' h0
   cases h0
   split at h
   ·rename_i hv
    cases hs:zq4 r with
    | none=>rw [hs] at h;cases h
    | some vs' =>
     rw [hs] at h
     cases h
     obtain ⟨g1,g2⟩:=zqu hs
     refine ⟨by simp [g1],λ j hj hj'=>?_⟩
     cases j with
     | zero=>exact ⟨rfl,hv⟩
     | succ j=>exact g2 j (by simpa using hj) (by simpa using hj')
   ·cases h
  ·cases h
theorem zrY {T:List (Nat×LV)} {es:Nat}:∀ {l:List (Nat×Operand)} {rows:List (List Leaf)},zlN T es l=some (false,rows)→scR rows →
  ∃ vss,zni T es l=some vss∧rows=vss.map (λ r=>r.map .sc)∧vss.length=l.length
 | [],rows,h,_=>by cases h;exact ⟨[],rfl,rfl,rfl⟩
 | (k,x) :: r,rows,h,hs=>by
  unfold zlN at h
  split at h
  ·rename_i ks t' rows' h1 h2
   split at h
   ·rename_i u ls h3
    split at h
    ·rename_i hes
     simp only [Option.some.injEq,Prod.mk.injEq,qe] at h
     obtain ⟨⟨rfl,rfl⟩,rfl⟩:=h
     obtain ⟨hs1,hs2⟩:=hs
     obtain ⟨vs,g1,g2⟩:=zuO h3 hs1
     obtain ⟨vss,f1,f2,f3⟩:=zrY h2 hs2
     refine ⟨vs :: vss,?_,by rw [g2,f2];rfl,by simp [f3]⟩
     unfold zni
     rw [h1,f1]
     simp only [g1]
     rw [if_pos]
     rw [← hes,g2]
     simp
    ·cases h
   ·cases h
  ·cases h
theorem zmV {T:List (Nat×LV)} {es:Nat}:∀ {l:List (Nat×Operand)} {vss:List (List Value)},zni T es l=some vss→vss.length=l.length∧(∀ r∈vss,r.length=es)∧(∀ r∈vss,∀ v∈r,zpm v=true) ∧
  ∀ i (hi:i < l.length) (hi':i < vss.length),∃ ks,zlh (ev T (l[i]).2)=some ks∧zq4 ks=some (vss[i])
 | [],vss,h=>by cases h;exact ⟨rfl,by simp,by simp,λ i hi=>by simp at hi⟩
 | (k,x) :: r,vss,h=>by
  unfold zni at h
  split at h
  ·rename_i ks l h1 h2
   split at h
   ·rename_i vs h3
    split at h
    ·rename_i hes
     cases h
     obtain ⟨g1,g2,g3,g4⟩:=zmV h2
     obtain ⟨s1,s2⟩:=zqu h3
     refine ⟨by simp [g1],λ r hr=>?_,λ r hr v hv=>?_,λ i hi hi'=>?_⟩
     ·rcases List.mem_cons.1 hr with rfl | hr
      ·exact hes
      ·exact g2 r hr
     ·rcases List.mem_cons.1 hr with rfl | hr
      ·obtain ⟨j,hj,rfl⟩:=List.getElem_of_mem hv
       exact (s2 j (by omega) hj).2
      ·exact g3 r hr v hv
     ·cases i with
      | zero=>exact ⟨ks,h1,h3⟩
      | succ i=>exact g4 i (by simpa using hi) (by simpa using hi')
    ·cases h
   ·cases h
  ·cases h
theorem znL {α:Type} {es:Nat}:∀ {vss:List (List α)},(∀ r∈vss,r.length=es)→vss.flatten.length=vss.length * es∧∀ i j (hi:i < vss.length) (hj:j < (vss[i]).length),vss.flatten[i * es+j]?=some ((vss[i])[j])
 | [],_=>⟨by simp,λ i j hi=>by simp at hi⟩
 | r :: q,h=>by
  obtain ⟨g1,g2⟩:=znL (vss:=q) λ r hr=>h r (List.mem_cons_of_mem _ hr)
  have hr:=h r (by simp)
  refine ⟨by simp only [qb,qM,qP,g1,hr,qf,Nat.one_mul];omega,λ i j hi hj=>?_⟩
  cases i with
  | zero =>
   simp only [List.getElem_cons_zero] at hj ⊢
   rw [qb,List.getElem?_append_left (by omega)]
   simp
  | succ i =>
   simp only [List.getElem_cons_succ] at hj ⊢
   rw [qb,List.getElem?_append_right (by rw [qf];omega)]
   rw [show (i+1) * es+j - r.length=i * es+j by rw [qf];omega]
   exact g2 i j (by simpa using hi) hj
theorem zuP {s:St} {op:Op} (ha:zpF op=true) {lv:LV} {H:HL} {nx:Nat} (h:opW P tab s op (Eqs lv H nx)) (hfl:zBu op=true→zrq H) :
  ∃ m,mkE tab s.T op=some m∧lv=m.lv s.nx∧H=(s.nx,some (true,m.ob)) :: s.H∧nx=s.nx+1:=by
 cases op<;>simp [zpF] at ha
 ·rename_i t
  unfold opW at h
  simp only [zm0,plain,opE] at h
  cases hl:zkm tab t with
  | none =>
   rw [hl] at h
   obtain ⟨_,_,h1,_⟩:=h;exact absurd (zm1 h1) (by simp [zk0])
  | some e =>
   rw [hl] at h
   obtain ⟨_,rfl,rfl,rfl⟩:=h
   exact ⟨⟨e.zero,λ b=>.pointer (some ⟨b,0,none⟩),λ id=>.pb id 0,.box (e.zero.map zlg)⟩,by simp only [mkE,hl],rfl,rfl,rfl⟩
 ·rename_i t len parts
  have hnil:¬ (∃ lv',znY tab s.T (.buildSlice t len parts)=some lv'):=λ ⟨_,h1⟩=>absurd (zm1 h1) (by simp [zk0])
  have hfl:=hfl rfl
  unfold opW at h
  simp only [zm0,plain] at h
  cases hop:opE P tab s (.buildSlice t len parts) with
  | none=>rw [hop] at h;obtain ⟨_,_,h1,_⟩:=h;exact absurd ⟨_,h1⟩ hnil
  | some r =>
   rw [hop] at h
   obtain ⟨_,rfl,rfl,rfl⟩:=h
   simp only [opE] at hop
   cases hl:zkm tab t with
   | none=>rw [hl] at hop;cases hop
   | some e =>
    rw [hl] at hop
    simp only at hop
    cases hsh:e.sh with
    | slice el =>
     rw [hsh] at hop
     simp only at hop
     cases hle:zkm tab el with
     | none=>rw [hle] at hop;cases hop
     | some ee =>
      rw [hle] at hop
      simp only at hop
      cases hbd:zmG (zlw tab 9 el) s.T ee.size parts.toList with
      | some q =>
       obtain ⟨ss,rows⟩:=q
       rw [hbd] at hop
       simp only at hop
       split at hop
       ·cases hop;exact hfl.elim
       ·cases hop
      | none =>
       rw [hbd] at hop
       simp only at hop
       cases hpr:zlN s.T ee.size parts.toList with
       | some q =>
        obtain ⟨tt,rows⟩:=q
        rw [hpr] at hop
        simp only at hop
        split at hop
        ·rename_i hb
         cases hop
         cases tt with
         | true=>exact hfl.elim
         | false =>
          obtain ⟨vss,g1,g2,g3⟩:=zrY hpr hfl
          have hlen:vss.length=len:=by rw [g3];have:=congrArg List.length hb.1;simpa using this
          subst g2
          refine ⟨_,by simp only [mkE,hl,hsh,hle,g1];exact if_pos ⟨hb.1,hb.2.1,hb.2.2,hlen⟩,rfl,rfl,rfl⟩
        ·cases hop
       | none =>
        rw [hpr] at hop
        simp only at hop
        split at hop
        ·split at hop
         ·cases hop;exact hfl.elim
         ·cases hop
        ·cases hop
    | _=>rw [hsh] at hop;cases hop
theorem zyL {tab:Tab} {T:List (Nat×LV)} {op:Op} {m:Mk} (h:mkE tab T op=some m) {w:World} {c:Ctx} {b0:Nat} (hc:∀ j (hj:j < m.zs.length),w.cell? ⟨b0,0+j,none⟩=some (m.zs[j])∧w.frozen? ⟨b0,0+j,none⟩=false) :
  Holds w c (Loc.flat b0 0 m.zs.length) m.ob:=by
 unfold mkE at h
 split at h
 ·split at h
  ·rename_i e _
   cases h
   refine ⟨by simp,λ j hj=>⟨_,hc j hj⟩,λ j hj v hv=>?_⟩
   have hj':j < e.zero.length:=by simpa using hj
   have:=(hc j hj').1
   rw [this] at hv
   cases hv
   rw [qg]
   exact znC _ _ _
  ·cases h
 ·split at h
  ·rename_i e hl
   split at h
   ·split at h
    ·rename_i ee _
     split at h
     ·rename_i vss hfp
      split at h
      ·rename_i hb
       cases h
       obtain ⟨f1,f2,f3,f4⟩:=zmV hfp
       obtain ⟨z1,z2⟩:=znL f2
       refine ⟨by simp [z1],λ r hr=>?_,λ j hj=>⟨_,hc j hj⟩,λ i j hi hj v hv=>?_⟩
       ·obtain ⟨r',hr',rfl⟩:=List.mem_map.1 hr
        rw [qO];exact f2 r' hr'
       ·have hi':i < vss.length:=by simpa using hi
        have hj':j < (vss[i]).length:=by simpa using hj
        have hz:=z2 i j hi' hj'
        obtain ⟨hlt,hz⟩:=List.getElem?_eq_some_iff.1 hz
        have:=(hc (i * ee.size+j) hlt).1
        simp only [Nat.zero_add] at this hv
        rw [this] at hv
        cases hv
        simp only [qg,hz]
        exact .sc (f3 _ (qh hi') _ (qh hj'))
      ·cases h
     ·cases h
    ·cases h
   ·cases h
  ·cases h
 ·cases h
theorem zB8 {tab:Tab} {T:List (Nat×LV)} {op:Op} {m:Mk} (h:mkE tab T op=some m) {w:World} {c:Ctx} {b0:Nat}:Cv w (c.push (Loc.flat b0 0 m.zs.length)) (m.lv c.nx) (m.rv b0):=by
 unfold mkE at h
 split at h
 ·split at h
  ·rename_i e _
   cases h
   have:=@Cv.pb w (c.push (Loc.flat b0 0 e.zero.length)) c.nx 0 (qd _)
   rw [Ctx.push_loc] at this
   exact this
  ·cases h
 ·split at h
  ·split at h
   ·split at h
    ·split at h
     ·rename_i vss hfp
      split at h
      ·rename_i hb
       cases h
       obtain ⟨f1,f2,f3,f4⟩:=zmV hfp
       obtain ⟨z1,z2⟩:=znL f2
       refine .os (qd _) (qi _) (by have:=hb.2.2.1;omega) (λ _=>rfl) (.inr ?_) ?_
       ·rw [Ctx.push_loc];simp
       ·rw [Ctx.push_loc]
        show 0 * _+_≤vss.flatten.length
        rw [z1,hb.2.2.2];omega
      ·cases h
     ·cases h
    ·cases h
   ·cases h
  ·cases h
 ·cases h
theorem Inv.claim1 (r:Run P tab all cf L st) (v:Inv tab all st w0 W0 c0 listed a w c k E bl) {j:Nat} {o:Oper} (hj:all[j]?=some o) (h2:zk0 o.op=2) (hl:li listed j) (hkj:k≤j)
  (hq:∀ (i:Nat) (oi:Oper),k≤i→i < j→all[i]?=some oi→zk0 oi.op≠2):∃ c' E',Inv tab all st w0 W0 c0 listed a w c' (j+1) E' bl:=by
 have hjN:=znK hj
 obtain ⟨e1,e2,e3,e4,e5⟩:=v.ea j o hj h2 hl hkj
 have hg:o.guard=none:=(r.chk.gd j o hj e1).resolve_right e2
 have hidle:=r.idle' hkj (by omega) hq
 have hst:=r.stp j o hj
 obtain ⟨sk,lv,H,nx,hgd,hw,he,hlg⟩:=hst.2.resolve_right λ ⟨_,_,_,_,hgd,_⟩=>by rw [hg] at hgd;cases hgd
 have hsk:sk=st j:=by
  rcases hgd with ⟨_,h⟩ | ⟨_,_,_,h,_⟩
  ·exact h
  ·rw [hg] at h;cases h
 subst hsk
 obtain ⟨e,htab,rfl,rfl,rfl⟩:=zuP e1 hw (λ hbs=>by
  have hin:=(r.chk.fl j o hj hbs).resolve_left e2
  have:=zpG r.log hin
  rw [hlg (zvZ hin)] at this
  exact this)
 have hzer:zer tab (st j) o=e.zs:=by unfold zer;simp only [htab]
 have hmkv:mkV tab (st j) o=e.rv:=by funext b;unfold mkV;simp only [htab]
 rw [hzer] at e3
 rw [hmkv] at e4
 have hsit:=v.sit.claim e3 (λ _=>.inr trivial) (by rw [← hzer];exact e5.2) (zyL htab)
 refine ⟨c.push (Loc.flat (bl j) (0) (e.zs.length)),λ b i=>if b=bl j∧i < e.zs.length then none else E b i,v.sz,v.cl,v.le.trans (c.le_push _),by omega,?_,?_,λ b i u hu=>?_,λ i oi hi hk2 hlt=>?_,λ i oi hi hk2 hli hkl=>?_,λ i i' oi oi' hi hi' hk2 hk2' hli hli' hkl hkl'=>?_,λ i oi hi hli hlt d hd m hm hmN=>?_,λ t' ht m hm hw'=>?_,v.tsz,v.df⟩
 ·rw [he]
  show c.nx+1=(st j).nx+1
  rw [v.nx,hidle.2]
 ·rw [he]
  show Sit _ _ _ (hp (((st j).nx,_) :: (st j).H)) _
  rw [zkD,hidle.1,hidle.2,← v.nx]
  exact hsit
 ·rw [if_neg]
  ·exact v.res b i u hu
  ·rintro ⟨rfl,_⟩
   rw [e5.1 i] at hu
   cases hu
 ·rcases qa i k with h | h
  ·exact v.loud i oi hi hk2 h
  ·rcases qa i j with h' | h'
   ·exact absurd hk2 (hq i oi h h' hi)
   ·have:i=j:=by omega
    subst this;exact hl
 ·obtain ⟨g1,g2,g3,g4,g5⟩:=v.ea i oi hi hk2 hli (by omega)
  refine ⟨g1,g2,λ q hq'=>?_,g4,g5.1,λ hz0 q u hq'=>g5.2 hz0 q u (by
   split at hq'
   ·cases hq'
   ·exact hq')⟩
  rw [if_neg]
  ·exact g3 q hq'
  ·rintro ⟨h3,h4⟩
   refine v.inj i j oi o hi hj hk2 h2 hli hl (by omega) hkj (by omega) ?_ ?_ h3
   ·intro h;rw [h] at hq';simp at hq'
   ·rw [hzer];intro h;rw [h] at h4;simp at h4
 ·exact v.inj i i' oi oi' hi hi' hk2 hk2' hli hli' (by omega) (by omega)
 ·rcases Classical.em (i=j) with rfl | hne
  ·rw [hj] at hi
   cases hi
   have hdl:tv (st (i+1)).T d=e.lv (st i).nx:=by rw [he,hd,zob]
   have hcv:Cv w (c.push (Loc.flat (bl i) (0) (e.zs.length))) (tv (st (i+1)).T d) (a.tmps.getD d undef):=by
    rw [hdl,e4 d hd,hidle.2,← v.nx]
    exact zB8 htab
   have:=r.lasts hcv (m - (i+1)) (by omega) λ j' o' h3 h4 hj' hd'=>by
    exact r.chk.dst i j' o o' hj hj' (by omega) d hd hd'
   rwa [show i+1+(m - (i+1))=m by omega] at this
  ·refine (v.v1 i oi hi hli (λ hk2=>?_) d hd m hm hmN).mono (c.le_push _) (.refl _ _)
   have:=hlt hk2
   exact qc λ hge=>hq i oi hge (by omega) hi hk2
 ·exact (v.v2 t' ht m hm hw').mono (c.le_push _) (.refl _ _)
theorem Inv.claims (r:Run P tab all cf L st) {i:Nat} (hiN:i≤all.size):∀ (n:Nat) {c:Ctx} {k:Nat} {E:Nat→Nat→Option Value},Inv tab all st w0 W0 c0 listed a w c k E bl→i - k≤n→k≤i →
  (∀ (j:Nat) (oj:Oper),k≤j→j < i→all[j]?=some oj→zk0 oj.op=2→li listed j) →
  ∃ c' k' E',Inv tab all st w0 W0 c0 listed a w c' k' E' bl∧k'≤i∧∀ (j:Nat) (oj:Oper),k'≤j→j < i→all[j]?=some oj→zk0 oj.op≠2:=by
 intro n
 induction n with
 | zero=>exact λ {c k E} v hn hki _=>⟨c,k,E,v,hki,λ j oj h1 h2=>by omega⟩
 | succ n ih =>
  intro c k E v hn hki hall
  by_cases hex:∃ (j:Nat) (oj:Oper),k≤j∧j < i∧all[j]?=some oj∧zk0 oj.op=2
  ·obtain ⟨j,⟨oj,hj1,hj2,hj3,hj4⟩,hmin⟩:∃ j,(∃ oj:Oper,k≤j∧j < i∧all[j]?=some oj∧zk0 oj.op=2)∧∀ j',j' < j→¬ ∃ oj:Oper,k≤j'∧j' < i∧all[j']?=some oj∧zk0 oj.op=2:=by
    obtain ⟨j,h⟩:=hex
    have:∀ n j,j≤n→(∃ oj:Oper,k≤j∧j < i∧all[j]?=some oj∧zk0 oj.op=2)→∃ j,(∃ oj:Oper,k≤j∧j < i∧all[j]?=some oj∧zk0 oj.op=2)∧∀ j',j' < j→¬ ∃ oj:Oper,k≤j'∧j' < i∧all[j']?=some oj∧zk0 oj.op=2:=by
     intro n
     induction n with
     | zero=>exact λ j hj h=>⟨j,h,λ j' hj'=>by omega⟩
     | succ n ihn =>
      intro j hj h
      by_cases hl:∃ j',j' < j∧∃ oj:Oper,k≤j'∧j' < i∧all[j']?=some oj∧zk0 oj.op=2
      ·obtain ⟨j',h1,h2⟩:=hl
       exact ihn j' (by omega) h2
      ·exact ⟨j,h,λ j' hj' h'=>hl ⟨j',hj',h'⟩⟩
    exact this j j (qi _) h
   obtain ⟨c',E',v'⟩:=v.claim1 r hj3 hj4 (hall j oj hj1 hj2 hj3 hj4) hj1 λ i' oi' h1 h2 h3 h4=>hmin i' h2 ⟨oi',h1,by omega,h3,h4⟩
   exact ih v' (by omega) (by omega) λ j' oj' h1 h2=>hall j' oj' (by omega) h2
  ·exact ⟨c,k,E,v,hki,λ j oj h1 h2 h3 h4=>hex ⟨j,oj,h1,h2,h3,h4⟩⟩
end
def zs7 (T:List (Nat×LV)) (ts:List Nat):List (Nat×LV):=ts.map λ t=>(t,tv T t)
theorem zrZ {T:List (Nat×LV)} {t:Nat}:∀ {ts:List Nat},tv (zs7 T ts) t=if t∈ts then tv T t else .un
 | []=>by simp [zs7,tv,zkm]
 | x :: r=>by
  have ih:=zrZ (T:=T) (t:=t) (ts:=r)
  unfold tv zs7 at ih ⊢
  simp only [List.map_cons,zkm]
  by_cases e:t=x
  ·subst e;simp [tv]
  ·rw [if_neg e,ih]
   simp [e]
end
end Go.TL

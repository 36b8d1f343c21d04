import Derived.Test.YteonagfnhdlfcaaGreatDoorG11TlUse
import Derived.OpenShut
import Derived.ChangeArms
import Derived.Deep.Slices
import Derived.WideKeyArgs
import Derived.SizedLaws
import Derived.Below
open Bool renaming and_eq_true → qa
open List renaming all_cons → qb, mem_range → qc, mem_map → qd
open Nat renaming zero_le → qe
set_option linter.unusedSimpArgs false
set_option linter.unusedVariables false
noncomputable section
namespace Go.TL
open Go Go.ChangeShapes Go.WideShapes
def zB5 (R:TypeId→List Leaf→Prop):List TypeId→List Leaf→Prop
 | [],ls=>ls=[]
 | t :: r,ls=>∃ a b,ls=a++b∧R t a∧zB5 R r b
def Shp (P:Program):Nat→TypeId→List Leaf→Prop
 | 0,_,_=>False
 | n+1,t,ls=>match P.underlying t with
  | some .bool=>∃ b,ls=[.sc (.bool b)]
  | some (.int k)=>∃ x,ls=[.sc (.int k x)]∧(Lit.int k x).wf=true
  | some .string=>∃ s:ByteArray,ls=[.sc (.string s)]∧s.size≤maxLen
  | some (.slice e)=>∃ rows:List (List Leaf),ls=[.sl rows]∧rows.length≤maxLen∧∀ r∈rows,Shp P n e r
  | some (.struct fs)=>zB5 (Shp P n) (fs.toList.map (·.type)) ls
  | _=>False
def zAd (P:Program) (n:Nat):Nat→List Field→Bool
 | o,[]=>o == n
 | o,f :: r=>o == f.offset && zAd P n (o+P.cellsOf f.type) r
def zn6 (P:Program):Nat→TypeId→Bool
 | 0,_=>false
 | n+1,t=>match P.underlying t with
  | some .bool=>P.cellsOf t == 1
  | some (.int _)=>P.cellsOf t == 1
  | some .string=>P.cellsOf t == 1
  | some (.slice e)=>zn6 P n e && decide (0 < P.cellsOf e) && P.cellsOf t == 1
  | some (.struct fs)=>zAd P (P.cellsOf t) 0 fs.toList && fs.toList.all λ f=>zn6 P n f.type
  | _=>false
def inW (w:World):zkF:=λ b _=>b < w.heap.size
def Reads (w:World) (cs:List Value) (ls:List Leaf):Prop:=ls.length=cs.length∧∀ j (hj:j < ls.length),∃ v,cs[j]?=some v∧RepL w (inW w) v (ls[j])
theorem Reads.one {w:World} {v:Value} {l:Leaf} (h:RepL w (inW w) v l):Reads w [v] [l] :=
 ⟨rfl,λ j hj=>by cases j with | zero=>exact ⟨v,rfl,h⟩ | succ j=>simp at hj⟩
theorem Reads.append {w:World} {cs cs':List Value} {ls ls':List Leaf} (h:Reads w cs ls) (k:Reads w cs' ls'):Reads w (cs++cs') (ls++ls'):=by
 refine ⟨by simp [h.1,k.1],λ j hj=>?_⟩
 by_cases hl:j < ls.length
 ·obtain ⟨v,hv,hr⟩:=h.2 j hl
  exact ⟨v,by rw [List.getElem?_append_left (by rw [← h.1];exact hl)];exact hv,by rw [List.getElem_append_left hl];exact hr⟩
 ·have hl':ls.length≤j:=Nat.le_of_not_lt hl
  have hj':j - ls.length < ls'.length:=by simp at hj;omega
  obtain ⟨v,hv,hr⟩:=k.2 (j - ls.length) hj'
  exact ⟨v,by rw [List.getElem?_append_right (by rw [← h.1];exact hl'),← h.1];exact hv,by rw [List.getElem_append_right hl'];exact hr⟩
section
variable {H:Type} {enc:TypeId×Value→H} {P:Program} {w:World}
theorem zqo {n:Nat} {R:TypeId→List Leaf→Prop} {m:Nat}
  (ih:∀ t cs (x:DataW H×List MemPlace),zn6 P n t=true→DataW.trod enc P w 0 (λ _=>true) true m t cs=some x→cs.length=P.cellsOf t∧∃ ls,R t ls∧Reads w cs ls) (N:Nat) (cs:List Value) (hN:cs.length=N) :
  ∀ (fs:List Field) (o:Nat),o≤N→zAd P N o fs=true→(fs.all λ f=>zn6 P n f.type)=true →
   (∀ f∈fs,∃ x,DataW.trod enc P w 0 (λ _=>true) true m f.type ((cs.drop f.offset).take (P.cellsOf f.type))=some x) →
   ∃ ls,zB5 R (fs.map (·.type)) ls∧Reads w (cs.drop o) ls
 | [],o,ho,hl,_,_=>by
  simp only [zAd,beq_iff_eq] at hl
  refine ⟨[],rfl,?_⟩
  have:cs.drop o=[]:=List.drop_of_length_le (by omega)
  rw [this]
  exact ⟨rfl,λ j hj=>by simp at hj⟩
 | f :: r,o,ho,hl,hp,hx=>by
  simp only [zAd,qa,beq_iff_eq] at hl
  obtain ⟨rfl,hl⟩:=hl
  simp only [qb,qa] at hp
  obtain ⟨x,hx1⟩:=hx f (by simp)
  obtain ⟨hz1,a,ha,hra⟩:=ih _ _ _ hp.1 hx1
  have hle:f.offset+P.cellsOf f.type≤N:=by
   rw [List.length_take,List.length_drop] at hz1;omega
  obtain ⟨b,hb,hrb⟩:=zqo ih N cs hN r (f.offset+P.cellsOf f.type) hle hl hp.2 (λ g hg=>hx g (by simp [hg]))
  refine ⟨a++b,⟨a,b,rfl,ha,hb⟩,?_⟩
  have e:cs.drop f.offset=(cs.drop f.offset).take (P.cellsOf f.type)++cs.drop (f.offset+P.cellsOf f.type):=by
   rw [← List.drop_drop,List.take_append_drop]
  rw [e]
  exact hra.append hrb
theorem zAe:∀ (n t:Nat) (m:Nat) (cs:List Value) (x:DataW H×List MemPlace),zn6 P n t=true→DataW.trod enc P w 0 (λ _=>true) true m t cs=some x →
  cs.length=P.cellsOf t∧∃ ls,Shp P n t ls∧Reads w cs ls
 | 0,_,_,_,_,hp,_=>by cases hp
 | n+1,t,m,cs,x,hp,h=>by
  unfold zn6 at hp
  unfold Shp
  split at hp
  ·rename_i ht
   obtain ⟨b,rfl,_⟩:=DataW.trod_bool ht h
   exact ⟨(beq_iff_eq.1 hp).symm,_,⟨b,rfl⟩,.one (.sc rfl)⟩
  ·rename_i k ht
   obtain ⟨y,rfl,_,hw⟩:=DataW.trod_int ht h
   exact ⟨(beq_iff_eq.1 hp).symm,_,⟨y,rfl,hw⟩,.one (.sc rfl)⟩
  ·rename_i ht
   obtain ⟨s,rfl,_,hs⟩:=DataW.trod_string ht h
   exact ⟨(beq_iff_eq.1 hp).symm,_,⟨s,rfl,hs⟩,.one (.sc rfl)⟩
  ·rename_i e ht
   simp only [qa,decide_eq_true_eq,beq_iff_eq] at hp
   obtain ⟨⟨hpe,hpos⟩,h1⟩:=hp
   rcases Deep.open_slice ht h with ⟨rfl,_⟩ | ⟨a,len,cap,k,m',D,Pl,rfl,_,hl,hm,hk,_,hx⟩
   ·exact ⟨h1.symm,_,⟨[],rfl,qe _,λ _ h=>by cases h⟩,.one .nil⟩
   simp only [if_true] at hk
   subst hk
   refine ⟨h1.symm,?_⟩
   have each:∀ i,i < len→∃ r:List Leaf,Shp P n e r∧r.length=P.cellsOf e∧∀ j (hj:j < r.length),∃ v,w.cell? (a.add (i * P.cellsOf e+j))=some v∧RepL w (inW w) v (r[j]):=by
    intro i hi
    obtain ⟨cs',h2,h3⟩:=hx i (by omega)
    obtain ⟨_,hlen,hcell⟩:=World.cells?_some h2
    obtain ⟨_,r,hr,hrr⟩:=zAe n e m' cs' _ hpe h3
    refine ⟨r,hr,by rw [hrr.1,hlen],λ j hj=>?_⟩
    obtain ⟨v,hv,hrep⟩:=hrr.2 j hj
    refine ⟨v,?_,hrep⟩
    rw [← Deep.add_add,hcell j (by rw [← hlen,← hrr.1];exact hj)]
    exact hv
   obtain ⟨f,hf⟩:=Deep.choose_lt each
   refine ⟨[.sl ((List.range len).map f)],⟨_,rfl,by simp;omega,λ r hr=>?_⟩,.one ?_⟩
   ·simp only [qd,qc] at hr
    obtain ⟨i,hi,rfl⟩:=hr
    exact (hf i hi).1
   ·rcases Nat.eq_zero_or_pos len with rfl | hlen
    ·simp only [List.range_zero,List.map_nil]
     exact .nil
    obtain ⟨b,off,spot⟩:=a
    have hspot:spot=none:=by
     obtain ⟨v,hv,_⟩:=(hf 0 hlen).2.2 0 (by rw [(hf 0 hlen).2.1];exact hpos)
     have:=World.cell?_spot hv
     simpa [Addr.add] using this
    subst hspot
    have cellOf:∀ i j,i < len→(hj:j < (f i).length)→∃ v,w.cell? ⟨b,off+(i * P.cellsOf e+j),none⟩=some v∧RepL w (inW w) v ((f i)[j]):=by
     intro i j hi hj
     have:=(hf i hi).2.2 j hj
     rwa [Addr.add_lit] at this
    have key:=RepL.sl (w:=w) (S:=inW w) (b:=b) (off:=off) (cap:=k) (es:=P.cellsOf e) (rows:=(List.range len).map f)
     (λ i j=>(w.cell? ⟨b,off+(i * P.cellsOf e+j),none⟩).getD undef) (λ r hr=>by
      simp only [qd,qc] at hr
      obtain ⟨i,hi,rfl⟩:=hr
      exact (hf i hi).2.1) (by simp;omega) (λ i j hi hj=>by
      have hi':i < len:=by simpa using hi
      obtain ⟨v,hv,_⟩:=cellOf i j hi' (by rw [(hf i hi').2.1];exact hj)
      exact ⟨zlz hv,by rw [hv];rfl⟩) (λ i j hi hj=>by
      have hi':i < len:=by simpa using hi
      have e1:((List.range len).map f)[i]=f i:=by simp
      have hj':j < (f i).length:=by rw [← e1];exact hj
      obtain ⟨v,hv,hr⟩:=cellOf i j hi' hj'
      rw [hv]
      have e2:(((List.range len).map f)[i])[j]=(f i)[j]:=by simp
      rw [e2]
      exact hr)
    have e3:((List.range len).map f).length=len:=by simp
    rw [e3] at key
    exact key
  ·rename_i fs ht
   simp only [qa] at hp
   obtain ⟨xs,m',rfl,_,hlen,hxs,hx⟩:=DataW.trod_struct ht h
   refine ⟨hlen,?_⟩
   obtain ⟨ls,h1,h2⟩:=zqo (R:=Shp P n) (λ t cs x=>zAe n t m' cs x) (P.cellsOf t) cs hlen fs.toList 0 (qe _) hp.1 hp.2 (λ f hf=>by
    obtain ⟨i,hi⟩:=List.getElem?_of_mem hf
    have hi2:fs[i]?=some f:=by simpa using hi
    have hlt:i < xs.length:=by rw [hxs];exact (Array.getElem?_eq_some_iff.1 hi2).1
    refine ⟨xs[i],?_⟩
    rw [hx i f hi2];exact List.getElem?_eq_getElem hlt)
   exact ⟨ls,h1,by simpa using h2⟩
  ·cases hp
end
def zwx:Leaf→LV
 | .sc v=>.lf false (.sc v)
 | .sl r=>.lf true (.sl r)
 | .raw v=>.lf true (.raw v)
def zxe (P:Program) (t:TypeId) (ls:List Leaf):LV:=match P.underlying t with
 | some (.struct _)=>.ag (ls.map zwx)
 | _=>match ls with
  | [l]=>zwx l
  | _=>.un
theorem zxf {w:World} {c:Ctx} {v:Value} {l:Leaf} (hF:∀ b k,inW w b k→c.F b k) (h:RepL w (inW w) v l):Cv w c (zwx l) v:=by
 cases l with
 | sc u=>cases h with | sc h=>exact .lf (.sc h)
 | sl r=>exact .lf (h.mono (λ b k x=>.inr ⟨rfl,hF b k x⟩) λ _ _ _=>rfl)
 | raw r=>exact .lf (h.mono (λ b k x=>.inr ⟨rfl,hF b k x⟩) λ _ _ _=>rfl)
theorem zAf {P:Program} {w:World} {c:Ctx} (hF:∀ b k,inW w b k→c.F b k) {n:Nat} {base:Nat} {t:TypeId} {v:Value} {ls:List Leaf} (hp:zn6 P n t=true) (hv:Value.okWide P w .any base t v) (hs:Shp P n t ls) (hr:Reads w v.cells.toList ls) :
  Cv w c (zxe P t ls) v:=by
 have one:∀ (l:Leaf),ls=[l]→v.cells=#[v]→Cv w c (zwx l) v:=by
  intro l hl hc
  subst hl
  rw [hc] at hr
  obtain ⟨v',hv',hrep⟩:=hr.2 0 (by simp)
  simp at hv'
  subst hv'
  exact zxf hF hrep
 cases n with
 | zero=>cases hp
 | succ n =>
  unfold zn6 at hp
  unfold Shp at hs
  unfold zxe
  split at hp
  ·rename_i ht
   rw [ht] at hs ⊢
   obtain ⟨b,rfl⟩:=hs
   obtain ⟨b',rfl⟩:=okWide_bool ht hv
   exact one _ rfl rfl
  ·rename_i k ht
   rw [ht] at hs ⊢
   obtain ⟨b,rfl,_⟩:=hs
   obtain ⟨b',rfl⟩:=okWide_int ht hv
   exact one _ rfl rfl
  ·rename_i ht
   rw [ht] at hs ⊢
   obtain ⟨b,rfl,_⟩:=hs
   obtain ⟨b',rfl⟩:=okWide_string ht hv
   exact one _ rfl rfl
  ·rename_i e ht
   rw [ht] at hs ⊢
   obtain ⟨b,rfl,_⟩:=hs
   obtain ⟨a,l,k,rfl⟩:=okWide_slice ht hv
   exact one _ rfl rfl
  ·rename_i fs ht
   rw [ht]
   obtain ⟨cs,rfl,hsz⟩:=okWide_struct ht hv
   refine .ag (λ j=>cs.getD j undef) ?_ (λ j hj=>?_) (λ j hj=>?_)
   ·have:=hr.1;simp only [Value.cells] at this;simp [this]
   ·have hj':j < cs.size:=by have:=hr.1;simp only [Value.cells] at this;simp at hj;simpa [this] using hj
    simp [hj']
   ·have hj1:j < ls.length:=by simpa using hj
    obtain ⟨u,hu,hrep⟩:=hr.2 j hj1
    simp only [Value.cells] at hu
    have hu2:cs[j]?=some u:=by simpa using hu
    have e:cs.getD j undef=u:=by rw [Array.getD_eq_getD_getElem?,hu2];rfl
    rw [e]
    have e2:(ls.map zwx)[j]=zwx ls[j]:=by simp
    rw [e2]
    exact zxf hF hrep
  ·cases hp
def zuk (P:Program) (n:Nat):List TypeId→List (List Leaf)→Prop
 | [],ls=>ls=[]
 | t :: r,ls=>∃ a b,ls=a :: b∧Shp P n t a∧zuk P n r b
def zm8 (P:Program):List TypeId→List (List Leaf)→List LV
 | t :: r,a :: b=>zxe P t a :: zm8 P r b
 | _,_=>[]
section
variable {H:Type} {enc:TypeId×Value→H} {P:Program} {w:World}
theorem zvB {n base:Nat} {c:Ctx} (hF:∀ b k,inW w b k→c.F b k):∀ {ts:List TypeId} {vs:List Value} {ds:List (DataW H)} {p:List MemPlace},(ts.all λ t=>zn6 P n t)=true →
  (∀ (j:Nat) t v,ts[j]?=some t→vs[j]?=some v→Value.okWide P w .any base t v)→DataW.TrodAll enc P w 0 (λ _=>true) true ts vs ds p →
  ds.length=ts.length∧∃ ls,zuk P n ts ls∧vs.length=(zm8 P ts ls).length∧∀ j (hj:j < (zm8 P ts ls).length),∃ v,vs[j]?=some v∧Cv w c ((zm8 P ts ls)[j]) v
 | [],_,_,_,_,_,h=>by
  obtain ⟨rfl,rfl,rfl⟩:=trodAll_nil h
  exact ⟨rfl,[],rfl,rfl,λ j hj=>by simp [zm8] at hj⟩
 | t :: ts,_,_,_,hp,hv,h=>by
  obtain ⟨v,vs',d,ds',p',q',rfl,rfl,rfl,⟨m,hm⟩,hr⟩:=trodAll_cons h
  simp only [qb,qa] at hp
  obtain ⟨_,a,ha,hra⟩:=zAe _ _ _ _ _ hp.1 hm
  obtain ⟨hl,b,hb,hlen,hcv⟩:=zvB hF hp.2 (λ j t v h1 h2=>hv (j+1) t v (by simpa using h1) (by simpa using h2)) hr
  refine ⟨by simp [hl],a :: b,⟨a,b,rfl,ha,hb⟩,by simp [zm8,hlen],λ j hj=>?_⟩
  cases j with
  | zero=>exact ⟨v,rfl,zAf hF hp.1 (hv 0 t v rfl rfl) ha hra⟩
  | succ j =>
   have hj':j < (zm8 P ts b).length:=by simpa [zm8] using hj
   obtain ⟨u,hu,hc⟩:=hcv j hj'
   exact ⟨u,by simpa using hu,by simpa [zm8] using hc⟩
theorem zxg (hl:laidOutB P=true) {w':World} (bel:Go.RowKit.Below w.heap.size w w'):∀ {ts:List TypeId} {vs:List Value} {ds:List (DataW H)} {p:List MemPlace},(ts.all λ t=>P.readableRec t && decide (t < P.types.size))=true →
  (∀ x∈p,x.block < w.heap.size)→DataW.TrodAll enc P w 0 (λ _=>true) true ts vs ds p→DataW.TrodAll enc P w' 0 (λ b=>decide (b < w.heap.size)) true ts vs ds p
 | [],_,_,_,_,_,h=>by
  obtain ⟨rfl,rfl,rfl⟩:=trodAll_nil h
  rfl
 | t :: ts,_,_,_,hp,hlt,h=>by
  obtain ⟨v,vs',d,ds',p',q',rfl,rfl,rfl,h1,h2⟩:=trodAll_cons h
  simp only [qb,qa,decide_eq_true_eq] at hp
  refine ⟨p',q',WideElems.Trod_stays hl hp.1.1 hp.1.2 h1 (λ x hx=>bel.same (hlt x (by simp [hx]))) (λ x hx=>by simpa using hlt x (by simp [hx])),?_,rfl⟩
  exact zxg hl bel (by simpa using hp.2) (λ x hx=>hlt x (by simp [hx])) h2
theorem zyr {n base:Nat} {f:FuncId} {ts:List TypeId} {args:Array Value} {ds:List (DataW H)} {p:List MemPlace} (hpl:(ts.all λ t=>zn6 P n t)=true)
  (hv:∀ (j:Nat) t v,ts[j]?=some t→args[j]?=some v→Value.okWide P w .any base t v) (h:DataW.TrodAll enc P w 0 (λ _=>true) true ts args.toList ds p)
  (hf:∀ ls,zuk P n ts ls→∃ nx,Fn P f (zm8 P ts ls) [] 0 (.lf false (.sc (.bool true))) [] nx) :
  ds.length=ts.length∧Calls P f args w λ e w'=>e=.returned (.bool true)∧Go.RowKit.Below w.heap.size w w':=by
 obtain ⟨hlen,ls,hs,hsz,hcv⟩:=zvB (c:=zm6 (inW w) (λ _=>(Loc.flat 0 0 0)) 0) (λ b k h=>h) hpl (λ j t v h1 h2=>hv j t v h1 (by simpa using h2)) h
 refine ⟨hlen,?_⟩
 obtain ⟨nx,hF⟩:=hf ls hs
 have hsit:Sit w (frm (rng (λ _=>(Loc.flat 0 0 0)) (TL.hp []))) (zm6 (inW w) (λ _=>(Loc.flat 0 0 0)) 0) (TL.hp []) w :=
  ⟨Keep.refl _ _,λ id o h=>(by cases h),λ i j oi oj h=>(by cases h),λ id o h=>(by cases h),λ b k h=>⟨h,λ ⟨id,o,ho,_⟩=>(by cases ho)⟩,λ b k h=>h.elim,λ b k v h=>(by cases h),λ id o h=>(by cases h),λ id o h=>(by cases h)⟩
 refine (hF.2 w (inW w) (λ _=>(Loc.flat 0 0 0)) args hsit (by simpa using hsz) (λ j hj=>by simpa using hcv j hj)).mono λ e w' ⟨v,c',he,hle,_,hsit',hc⟩=>?_
 refine ⟨?_,(hsit'.keep.mono λ b k _ ⟨id,o,ho,_⟩=>by cases ho).below⟩
 rw [he]
 cases hc with | lf h=>cases h with | sc h=>rfl
end
theorem zxh {α:Type} {f:α→List Leaf} {p:α→Prop}:∀ {rows:List (List Leaf)},(∀ r∈rows,∃ x,r=f x∧p x)→∃ xs:List α,rows=xs.map f∧(∀ x∈xs,p x)
 | [],_=>⟨[],rfl,λ x h=>by cases h⟩
 | r :: q,h=>by
  obtain ⟨x,rfl,hx⟩:=h r (by simp)
  obtain ⟨xs,rfl,hxs⟩:=zxh (f:=f) (p:=p) (rows:=q) λ r' hr=>h r' (by simp [hr])
  exact ⟨x :: xs,rfl,λ y hy=>by
   rcases List.mem_cons.1 hy with rfl | hy
   ·exact hx
   ·exact hxs y hy⟩
section
variable {P:Program} {n t e:Nat} {ls:List Leaf}
theorem zBe {k:IntKind} (ht:P.underlying t=some (.int k)) (h:Shp P (n+1) t ls):∃ x,ls=[.sc (.int k x)]∧(Lit.int k x).wf=true:=by
 unfold Shp at h;rw [ht] at h;exact h
theorem zys (ht:P.underlying t=some (.slice e)) {α:Type} {f:α→List Leaf} {p:α→Prop} (hf:∀ r,Shp P n e r→∃ x,r=f x∧p x) (h:Shp P (n+1) t ls):∃ xs:List α,ls=[.sl (xs.map f)]∧xs.length≤maxLen∧∀ x∈xs,p x:=by
 unfold Shp at h;rw [ht] at h
 obtain ⟨rows,rfl,hl,hr⟩:=h
 obtain ⟨xs,rfl,hx⟩:=zxh (f:=f) (p:=p) λ r h=>hf r (hr r h)
 exact ⟨xs,rfl,by simpa using hl,hx⟩
end
end Go.TL

import Derived.Test.YteonagfnhdlfcaaGreatDoorTlDraw3
open Nat renaming le_refl → qa, zero_add → qd
open List renaming getElem_of_mem → qb, getElem_mem → qc, countP_cons → qh
open Array renaming all_eq_true → qe
open Bool renaming and_eq_true → qf
open Option renaming getD_some → qg, map_some → qi
set_option linter.unusedSimpArgs false
set_option linter.unusedVariables false
noncomputable section
namespace Go.TL
open Go
section
variable {P:Program} {tab:Tab} {all:Array Oper} {cf:List (Nat×Nat)} {L:Log} {st:Nat→St}
theorem zuQ {o:Oper} {t:Nat} (h:Operand.tmp t∈o.op.operands):t∈o.looksAt all :=
 List.mem_append_left _ (List.mem_filterMap.2 ⟨.tmp t,by simpa using h,rfl⟩)
theorem zq6 {o:Oper} {j d:Nat} {want:Bool} (hg:o.guard=some (j,want)) (hd:(all[j]?).bind (·.dst)=some d):d∈o.looksAt all:=by
 refine List.mem_append_right _ ?_
 rw [hg]
 simp only [hd]
 simp
theorem zyM {T:List (Nat×LV)} {ts:List Nat} {x:Operand} (h:∀ t,x=.tmp t→t∈ts):ev (zs7 T ts) x=ev T x:=by
 cases x with
 | tmp t=>simp only [ev,zrZ];rw [if_pos (h t rfl)]
 | _=>rfl
theorem Sit.ahead {w0 w:World} {W:zkF} {E:Nat→Nat→Option Value} {c:Ctx} {H:zkO} (s:Sit w0 ⟨W,E⟩ c H w) (T:TypeId) (zs:Array Value) :
  Sit w0 ⟨W,λ b i=>if b=w.heap.size then zs[i]? else E b i⟩ c H (w.alloc (.cells zs T))∧Same c w (w.alloc (.cells zs T)):=by
 obtain ⟨h1,h2⟩:=s.idle (zma w (.cells zs T))
 refine ⟨⟨h1.keep,h1.own,h1.dis,h1.sep,h1.old,h1.new,λ b i u hu=>?_,h1.pl,h1.mo⟩,h2⟩
 have hu':(if b=w.heap.size then zs[i]? else E b i)=some u:=hu
 by_cases e:b=w.heap.size
 ·subst e
  rw [if_pos rfl] at hu'
  refine ⟨s.keep.size,λ k2 hg=>?_,by rw [zlM];exact hu',λ k'=>by simp,λ id o ho k2 hb=>?_⟩
  ·have:=(s.new _ _ hg).2;omega
  ·have:=s.lt ho hb;omega
 ·rw [if_neg e] at hu'
  exact h1.res b i u hu'
theorem zBy (htab:zlK P tab) {o:Oper} {T:List (Nat×LV)} {m:Mk} (h:mkE tab T o.op=some m) {a:Act} {w:World} {c:Ctx} (hcv:∀ x∈o.op.operands,Cv w c (ev T x) (a.eval x)):∃ (z:Array Value) (t:TypeId),z.toList=m.zs∧(execOp a.eval o).run P w=.ok (.value (m.rv w.heap.size)) (w.alloc (.cells z t)):=by
 unfold mkE at h
 split at h
 ·rename_i t ho
  split at h
  ·rename_i e htb
   cases h
   obtain ⟨z,hz,hrun⟩:=(htab _ (zlL htb)).runZero
   refine ⟨z.cells,t,hz,?_⟩
   unfold execOp
   rw [ho]
   simp only [Instr.alloc,Sem.run_bind,hrun,Result.andThen_ok,newVar,newRow,run_newObj,Sem.run_pure,zmh]
  ·cases h
 ·rename_i t len parts ho
  split at h
  ·rename_i e hl
   split at h
   ·rename_i el hsh
    split at h
    ·rename_i ee hle
     split at h
     ·rename_i vss hfp
      split at h
      ·rename_i hb
       cases h
       obtain ⟨b2,b3,b4,b5⟩:=hb
       obtain ⟨f1,f2,f3,f4⟩:=zmV hfp
       obtain ⟨z1,z2⟩:=znL f2
       have ht:=htab _ (zlL hl)
       have he:=htab _ (zlL hle)
       obtain ⟨z,hz,hzr⟩:=he.runZero
       let base:Array Value:=(Array.range (len * ee.size)).map ((if len * ee.size=0 then (#[]:Array Value) else z.cells)[· % (if len * ee.size=0 then (#[]:Array Value) else z.cells).size]!)
       have hbase:base.size=len * ee.size:=by simp [base]
       let vparts:List (Nat×Value):=(parts.map λ (i,x)=>(i,a.eval x)).toList
       have hvp:vparts=parts.toList.map λ p=>(p.1,a.eval p.2):=by simp [vparts]
       have hpl:parts.toList.length=len:=by have:=congrArg List.length b2;simpa using this
       have hvl:vparts.length=len:=by rw [hvp];simpa using hpl
       have hev:∀ i (hi:i < parts.toList.length),(a.eval (parts.toList[i]).2).cells.size=ee.size∧∀ j,j < ee.size→(a.eval (parts.toList[i]).2).cells[j]?=(vss[i]'(by omega))[j]?:=λ i hi=>by
        obtain ⟨ks,k1,k2⟩:=f4 i hi (by omega)
        obtain ⟨s1,s2⟩:=zqu k2
        have hcx:=hcv (parts.toList[i]).2 (by
         rw [ho]
         have hm:parts.toList[i]∈parts:=Array.mem_def.2 (qc hi)
         simp only [Op.operands]
         exact Array.mem_def.2 (List.mem_map.2 ⟨parts.toList[i],Array.mem_def.1 hm,rfl⟩))
        obtain ⟨c1,c2⟩:=zmD k1 hcx
        have hr:=f2 _ (qc (show i < vss.length by omega))
        refine ⟨by omega,λ j hj=>?_⟩
        have hlt:j < (a.eval (parts.toList[i]).2).cells.size:=by omega
        have h1:=c2 j (by omega) _ (Array.getElem?_eq_getElem hlt)
        have h2:=s2 j (by omega) (by omega)
        rw [h2.1] at h1
        rw [Array.getElem?_eq_getElem hlt,List.getElem?_eq_getElem (by omega)]
        cases h1 with
        | lf hh =>
         have:∀ {u v:Value},RepL w (c.fs false) u (.sc v)→u=v:=λ h=>by cases h;rfl
         rw [this hh]
       obtain ⟨r,h1,h2,h3,_⟩:=zoP ee.size vparts 0 base (by rw [hvl,← List.range_eq_range',hvp,← b2];simp) (λ p hp=>by
        rw [hvp,List.mem_map] at hp
        obtain ⟨q,hq,rfl⟩:=hp
        obtain ⟨i,hi,rfl⟩:=qb hq
        exact (hev i hi).1) (by rw [qd,hvl,hbase];exact qa _)
       have hrow:∀ i j,i < len→j < ee.size→r[i * ee.size+j]?=vss.flatten[i * ee.size+j]?:=λ i j hi hj=>by
        have:=h3 i (by omega) j hj
        rw [qd] at this
        rw [this]
        have hgi:(vparts[i]'(by omega)).2=a.eval (parts.toList[i]'(by omega)).2:=by simp [hvp]
        have hr:=f2 _ (qc (show i < vss.length by omega))
        rw [hgi,(hev i (by omega)).2 j hj,z2 i j (by omega) (by omega),List.getElem?_eq_getElem (by omega)]
       refine ⟨r,el,?_,?_⟩
       ·refine List.ext_getElem? λ q=>?_
        show _=vss.flatten[q]?
        rw [Array.getElem?_toList]
        by_cases hq:q < len * ee.size
        ·have hpos:0 < ee.size:=by
          rcases Nat.eq_zero_or_pos ee.size with h0 | h0
          ·rw [h0] at hq;simp at hq
          ·exact h0
         have hdm:=Nat.div_add_mod q ee.size
         have:=hrow (q / ee.size) (q % ee.size) ((Nat.div_lt_iff_lt_mul hpos).2 hq) (Nat.mod_lt _ hpos)
         rw [Nat.mul_comm] at hdm
         rw [hdm] at this
         exact this
        ·rw [Array.getElem?_eq_none (by rw [h2,hbase];omega),List.getElem?_eq_none (by rw [z1,b5];omega)]
       ·unfold execOp
        rw [ho]
        have hnb:¬ (len * ee.size > 2 ^ 24):=by omega
        have h1':Instr.fill (λ i=>some (i * ee.size,ee.size)) ((Array.range (len * ee.size)).map λ x=>(if len * ee.size=0 then (#[]:Array Value) else z.cells)[x % (if len * ee.size=0 then (#[]:Array Value) else z.cells).size]!) (parts.map λ (i,x)=>(i,a.eval x)).toList=some r:=h1
        simp only [Instr.buildSlice,Sem.run_bind,zkS (ht.slice hsh),Result.andThen_ok,he.runSize,hnb,if_false]
        by_cases h0:len * ee.size=0
        ·simp only [h0,if_true] at h1' ⊢
         simp only [Sem.run_bind,Sem.run_pure,Result.andThen_ok,h1',newRow,run_newObj,zmh]
        ·simp only [h0,if_false] at h1' ⊢
         simp only [Sem.run_bind,Sem.run_pure,hzr,Result.andThen_ok,h1',newRow,run_newObj,zmh]
      ·cases h
     ·cases h
    ·cases h
   ·cases h
  ·cases h
 ·cases h
section
variable {w0:World} {W0:Fr} {c0:Ctx} {listed:Array Bool} {a:Act} {w:World} {c:Ctx} {k:Nat} {E:Nat→Nat→Option Value} {bl:Nat→Nat}
theorem Inv.early (htab:zlK P tab) (r:Run P tab all cf L st) (v:Inv tab all st w0 W0 c0 listed a w c k E bl) {i:Nat} {o:Oper} (hi:all[i]?=some o) (hu:¬ li listed i) (hr:zq5 listed o) (hk2:zk0 o.op=2) (ha:zpF o.op=true) (hna:¬ zq3 all i o)
  {Q:Exit→Act→World→Prop} {K:Act→World→Prop} (hK:∀ a' w' c' k' E' bl',Inv tab all st w0 W0 c0 (listed.setIfInBounds i true) a' w' c' k' E' bl'→K a' w'):wpOp P all Q i K a w:=by
 have hiN:=znK hi
 have hg:o.guard=none:=(r.chk.gd i o hi ha).resolve_right hna
 have hki:=(v.loudAt r hi hu hr hk2).1
 have hstp:=r.stp i o hi
 obtain ⟨sk,lv,H,nx,hgd,hw,he,hlg⟩:=hstp.2.resolve_right λ ⟨_,_,_,_,hgd,_⟩=>by rw [hg] at hgd;cases hgd
 have hsk:sk=st i:=by
  rcases hgd with ⟨_,h⟩ | ⟨_,_,_,h,_⟩
  ·exact h
  ·rw [hg] at h;cases h
 subst hsk
 obtain ⟨e,htb,rfl,rfl,rfl⟩:=zuP ha hw (λ hbs=>by
  have hin:=(r.chk.fl i o hi hbs).resolve_left hna
  have:=zpG r.log hin
  rw [hlg (zvZ hin)] at this
  exact this)
 have hop:∀ t,t∈o.looksAt all→Cv w c (tv (st i).T t) (a.tmps.getD t undef):=λ t ht=>v.operand r hi hu hr (λ _=>.inl ha) ht
 obtain ⟨z,t,hz,hx⟩:=zBy htab htb (a:=a) (w:=w) (c:=c) (λ x hx=>by
  cases x with
  | tmp t=>exact hop t (zuQ hx)
  | const u=>exact zul _ _ _
  | func f=>exact .fn (λ _=>undef) rfl (λ j hj=>by simp at hj) λ j hj=>by simp at hj
  | global g=>exact .un _)
 have hzer:zer tab (st i) o=e.zs:=by unfold zer;simp only [htb]
 have hmkv:mkV tab (st i) o=e.rv:=by funext b;unfold mkV;simp only [htb]
 unfold wpOp
 simp only [hi]
 have hwant:Region.wanted o (yielded all a.tmps)=true:=by unfold Region.wanted;rw [hg]
 rw [if_pos hwant]
 left
 unfold Oper.wp
 rw [hx]
 obtain ⟨hsit,hsame⟩:=v.sit.ahead t z
 refine hK _ _ c k (λ b j=>if b=w.heap.size then z[j]? else E b j) (λ j=>if j=i then w.heap.size else bl j) ?_
 have hset:∀ j,li (listed.setIfInBounds i true) j↔(j=i∨li listed j):=λ j=>zv0 (by rw [v.sz];exact hiN)
 have hdt:∀ d,o.dst=some d→d < a.tmps.size:=λ d hd=>by
  have:=hstp.1
  rw [hd] at this
  simp only [zmf,decide_eq_true_eq] at this
  rw [v.tsz,← r.nt i (by omega)]
  exact this
 have hold:∀ b j u,W0.e b j=some u→b < w.heap.size:=λ b j u h=>zlz (v.sit.res b j u (v.res b j u h)).2.2.1
 have hea:∀ (j:Nat) (oj:Oper),all[j]?=some oj→zk0 oj.op=2→li (listed.setIfInBounds i true) j→j≠i→li listed j:=λ j oj _ _ hl hne=>((hset j).1 hl).resolve_left hne
 have hlow:∀ (j:Nat) (oj:Oper),all[j]?=some oj→zk0 oj.op=2→li listed j→k≤j→zer tab (st j) oj≠[]→bl j < w.heap.size:=λ j oj hj h2 hl hkj hne=>by
  have h3:=(v.ea j oj hj h2 hl hkj).2.2.1
  cases hq:zer tab (st j) oj with
  | nil=>exact absurd hq hne
  | cons x q =>
   have:=h3 0 (by rw [hq];simp)
   exact zlz (v.sit.res _ _ _ this).2.2.1
 refine ⟨by simpa using v.sz,λ j oj hj hlj e' he' hb=>?_,v.le,v.kN,v.nx,hsit,λ b j u h=>?_,λ j oj hj h2 hlt=>(hset j).2 (.inr (v.loud j oj hj h2 hlt)),λ j oj hj h2 hl hkj=>?_,λ j j' oj oj' hj hj' h2 h2' hl hl' hkj hkj' hne hz1 hz2=>?_,λ j oj hj hlj hkl d hd m hjm hm=>?_,λ t' ht m hm hw'=>?_,?_,?_⟩
 ·refine (hset _).2 (.inr ?_)
  rcases (hset j).1 hlj with rfl | h
  ·have:oj=o:=by
    have hj':all[j]?=some oj:=by simpa using hj
    rw [hi] at hj';exact (Option.some.inj hj').symm
   subst this
   exact hr e' he' hb
  ·exact v.cl j oj hj h e' he' hb
 ·have:=hold b j u h
  rw [if_neg (by omega)]
  exact v.res b j u h
 ·by_cases e':j=i
  ·subst e'
   rw [hi] at hj
   cases hj
   refine ⟨ha,hna,λ q hq=>?_,λ d hd=>?_,λ q=>?_,λ hz0 q u hqu=>?_⟩
   ·simp only [if_true]
    have hq':q < e.zs.length:=by rw [← hzer];exact hq
    have:(zer tab (st j) o)[q]=e.zs[q]:=by simp only [hzer]
    rw [this]
    have h3:z.toList[q]?=some (e.zs[q]):=by rw [hz];exact List.getElem?_eq_getElem hq'
    simpa using h3
   ·simp only [if_true]
    rw [hd,zyK (hdt d hd),hmkv]
   ·simp only [if_true]
    cases hq:W0.e w.heap.size q with
    | none=>rfl
    | some u=>have:=hold _ _ _ hq;omega
   ·simp only [if_true] at hqu
    have hlt:q < z.size:=by
     rcases Nat.lt_or_ge q z.size with h | h
     ·exact h
     ·rw [Array.getElem?_eq_none h] at hqu;cases hqu
    rw [hzer,← hz]
    simpa using hlt
  ·have hl':=hea j oj hj h2 hl e'
   obtain ⟨e1,e2,e3,e4,e5⟩:=v.ea j oj hj h2 hl' hkj
   refine ⟨e1,e2,λ q hq=>?_,λ d hd=>?_,λ q=>?_,λ hz0 q u hqu=>?_⟩
   ·rw [if_neg e']
    have hlo:=hlow j oj hj h2 hl' hkj (λ h=>by rw [h] at hq;simp at hq)
    rw [if_neg (by omega)]
    exact e3 q hq
   ·rw [if_neg e',zqt λ h=>r.chk.dst i j o oj hi hj (Ne.symm e') d h hd]
    exact e4 d hd
   ·rw [if_neg e']
    exact e5.1 q
   ·rw [if_neg e'] at hqu
    have hlo:=hlow j oj hj h2 hl' hkj hz0
    rw [if_neg (by omega)] at hqu
    exact e5.2 hz0 q u hqu
 ·by_cases e1:j=i
  ·subst e1
   have hne':j'≠j:=Ne.symm hne
   rw [if_pos rfl,if_neg hne']
   have:=hlow j' oj' hj' h2' (hea j' oj' hj' h2' hl' hne') hkj' hz2
   omega
  ·rw [if_neg e1]
   by_cases e2:j'=i
   ·subst e2
    rw [if_pos rfl]
    have:=hlow j oj hj h2 (hea j oj hj h2 hl e1) hkj hz1
    omega
   ·rw [if_neg e2]
    exact v.inj j j' oj oj' hj hj' h2 h2' (hea j oj hj h2 hl e1) (hea j' oj' hj' h2' hl' e2) hkj hkj' hne hz1 hz2
 ·rcases Classical.em (j=i) with rfl | hji
  ·rw [hi] at hj
   cases hj
   have:=hkl hk2
   omega
  ·have h:=((hset j).1 hlj).resolve_left hji
   have hne:o.dst≠some d:=λ hd'=>r.chk.dst i j o oj hi hj (Ne.symm hji) d hd' hd
   rw [zqt hne]
   exact (v.v1 j oj hj h hkl d hd m hjm hm).mono (.refl c) hsame
 ·have hne:o.dst≠some t':=ht i o hi ((hset i).2 (.inl rfl))
  rw [zqt hne]
  exact (v.v2 t' (λ j oj hj h=>ht j oj hj ((hset j).2 (.inr h))) m hm hw').mono (.refl c) hsame
 ·rw [← v.tsz]
  cases o.dst<;>simp [Act.put]
 ·rw [← v.df]
  cases o.dst<;>rfl
theorem Inv.turn (htab:zlK P tab) (r:Run P tab all cf L st) (v:Inv tab all st w0 W0 c0 listed a w c k E bl) {i:Nat} {o:Oper} (hi:all[i]?=some o) (hu:¬ li listed i) (hr:zq5 listed o)
  {Q:Exit→Act→World→Prop} {K:Act→World→Prop} (hK:∀ a' w' c' k' E' bl',Inv tab all st w0 W0 c0 (listed.setIfInBounds i true) a' w' c' k' E' bl'→K a' w'):wpOp P all Q i K a w:=by
 have hiN:=znK hi
 have hcase:(zpF o.op=true∧¬ zq3 all i o∧zk0 o.op=2)∨∃ c' k' E',Inv tab all st w0 W0 c0 listed a w c' k' E' bl∧(zk0 o.op=2→k'≤i∧∀ (j:Nat) (oj:Oper),k'≤j→j < i→all[j]?=some oj→zk0 oj.op≠2):=by
  by_cases hk2:zk0 o.op=2
  ·obtain ⟨hki,h | h⟩:=v.loudAt r hi hu hr hk2
   ·obtain ⟨c',k',E',v',h1,h2⟩:=v.claims r (i:=i) (by omega) (i - k) (qa _) hki λ j oj _ h1 h2 h3=>h j oj h1 h2 h3
    exact .inr ⟨c',k',E',v',λ _=>⟨h1,h2⟩⟩
   ·exact .inl ⟨h.1,h.2,hk2⟩
  ·exact .inr ⟨c,k,E,v,λ h=>absurd h hk2⟩
 rcases hcase with ⟨ha,hna,hk2⟩ | ⟨c,k,E,v,hin⟩
 ·exact v.early htab r hi hu hr hk2 ha hna hK
 have hop:∀ t,t∈o.looksAt all→Cv w c (tv (st i).T t) (a.tmps.getD t undef):=λ t ht=>v.operand r hi hu hr (λ h=>.inr (hin h).2) ht
 have hk3:=(r.chk.one i o hi).1
 have hstp:=r.stp i o hi
 unfold wpOp
 simp only [hi]
 rcases hstp.2 with ⟨sk,lv,H,nx,hg,hw,he,hlog⟩ | ⟨j,want,d,s1,hgd,hd,hb,he⟩
 ·have hwant:Region.wanted o (yielded all a.tmps)=true:=by
   rcases hg with ⟨hn,_⟩ | ⟨j,want,d,hgd,hd,hb,_⟩
   ·unfold Region.wanted;rw [hn]
   ·have hv:=(zl3 hb (hop d (zq6 hgd hd))).1
    unfold Region.wanted
    rw [hgd]
    simp [zpE hd hv]
  rw [if_pos hwant]
  left
  have hsk:=hg.same
  let s1:St:=⟨zs7 sk.T (o.looksAt all),(st k).H,(st k).nx,(st 0).nt⟩
  have hrel:Rel w0 ⟨W0.w,E⟩ c s1 a w:=by
   refine ⟨v.sit,v.nx,λ t=>?_,v.tsz,v.df⟩
   show Cv w c (tv (zs7 sk.T (o.looksAt all)) t) _
   rw [zrZ]
   split
   ·rename_i ht;exact hg.cv (hop t ht)
   ·exact .un _
  have hev:∀ x∈o.op.operands,ev s1.T x=ev sk.T x:=λ x hx=>zyM λ t ht=>zuQ (by rw [← ht];exact hx)
  by_cases hk2:zk0 o.op=2
  ·obtain ⟨hki,hq⟩:=hin hk2
   have hidle:=r.idle' hki (by omega) hq
   have hw1:opW P tab s1 o.op (Eqs lv H nx):=zyH hk3 hw hev (by show (st k).H=sk.H;rw [hsk.1,hidle.1]) (by show (st k).nx=sk.nx;rw [hsk.2.1,hidle.2])
   refine ztP htab hw1 hrel λ lv' H' nx' x w' c' hE hle hnx hsit hsame hcv=>hK _ _ c' (i+1) E bl ?_
   obtain ⟨rfl,rfl,rfl⟩:=hE
   refine v.step r hi hu hr hle hsame (.inl ⟨hk2,rfl,hki,hq⟩) ?_ ?_ λ d hd=>?_
   ·rw [he,hnx];rfl
   ·rw [he];exact hsit
   ·rw [he,hd,zob];exact hcv
  ·have hk1:zk0 o.op≤1:=by have:=zwH o.op;omega
   have hwid:∀ id,wid sk.T o.op=some id→hp s1.H id=hp sk.H id:=λ id hid=>by
    show hp (st k).H id=hp sk.H id
    rw [hsk.1]
    by_cases h1:zk0 o.op=1
    ·exact v.readAt r hi hu hr h1 hlog hid
    ·exfalso
     have h0:zk0 o.op=0:=by omega
     cases hop':o.op<;>rw [hop'] at h0 hid<;>simp [zk0,wid] at h0 hid
   have hw1:=(zuK hk1 hw hev hwid).2
   refine ztP htab hw1 hrel λ lv' H' nx' x w' c' hE hle hnx hsit hsame hcv=>hK _ _ c' k E bl ?_
   obtain ⟨rfl,rfl,rfl⟩:=hE
   refine v.step r hi hu hr hle hsame (.inr ⟨hk2,rfl⟩) hnx hsit λ d hd=>?_
   rw [he,hd,zob]
   exact hcv
 ·have hv:=hb.not (all:=all) hd (hop d (zq6 hgd hd))
  have hwant:¬ Region.wanted o (yielded all a.tmps)=true:=by
   unfold Region.wanted
   rw [hgd]
   simpa using hv
  rw [if_neg hwant]
  by_cases hk2:zk0 o.op=2
  ·obtain ⟨hki,hq⟩:=hin hk2
   have hidle:=r.idle' hki (by omega) hq
   refine hK _ _ c (i+1) E bl (v.step r hi hu hr (.refl c) (.refl c w) (.inl ⟨hk2,rfl,hki,hq⟩) ?_ ?_ λ d' hd'=>?_)
   ·rw [he];show c.nx=(st i).nx;rw [hidle.2];exact v.nx
   ·rw [he];show Sit w0 _ c (hp (st i).H) w;rw [hidle.1];exact v.sit
   ·rw [he,hd',zob];exact zp0 _ _
  ·refine hK _ _ c k E bl (v.step r hi hu hr (.refl c) (.refl c w) (.inr ⟨hk2,rfl⟩) v.nx v.sit λ d' hd'=>?_)
   rw [he,hd',zob];exact zp0 _ _
end
theorem zqv {listed:Array Bool} (hsz:listed.size=all.size) {i:Nat}:i∈Region.ready .any all listed↔∃ o,all[i]?=some o∧¬ li listed i∧zq5 listed o:=by
 unfold Region.ready
 rw [List.mem_filter,List.mem_range]
 constructor
 ·rintro ⟨hlt,h⟩
  obtain ⟨o,ho⟩:=there hlt
  rw [qf,ho] at h
  refine ⟨o,ho,λ hl=>?_,λ e he hb=>?_⟩
  ·unfold li at hl
   have h1:=h.1
   have hlt':i < listed.size:=by omega
   simp [hlt'] at hl h1
   rw [hl] at h1;cases h1
  ·have:=h.2
   simp only [qi,qg,qe] at this
   obtain ⟨n,hn,rfl⟩:=qb he
   have:=this n (by simpa using hn)
   simp only [Array.getElem_toList] at hb
   simpa [hb,li] using this
 ·rintro ⟨o,ho,hu,hr⟩
  have hlt:=znK ho
  refine ⟨hlt,?_⟩
  rw [qf,ho]
  refine ⟨?_,?_⟩
  ·unfold li at hu
   have hlt':i < listed.size:=by omega
   simp [hlt'] at hu ⊢
   exact hu
  ·simp only [qi,qg,qe]
   intro n hn
   by_cases hb:Region.binds .any o.after[n]=true
   ·have:=hr o.after[n] (by simp) hb
    unfold li at this
    simp [hb,this]
   ·simp [hb]
def zr0 (all:Array Oper) (listed:Array Bool):Nat:=(List.range all.size).countP λ i=>!listed.getD i false
theorem zr1 {listed:Array Bool} {i:Nat} (hi:i < listed.size) (hu:¬ li listed i):∀ (l:List Nat),l.Nodup→i∈l→l.countP (λ j=>!(listed.setIfInBounds i true).getD j false)+1=l.countP λ j=>!listed.getD j false
 | [],_,hm=>by simp at hm
 | x :: q,hn,hm=>by
  have hne:∀ j,j≠i→(listed.setIfInBounds i true).getD j false=listed.getD j false:=λ j hj=>by
   simp only [Array.getD_eq_getD_getElem?,Array.getElem?_setIfInBounds]
   rw [if_neg (Ne.symm hj)]
  by_cases e:x=i
  ·subst e
   have hni:x∉q:=(List.nodup_cons.1 hn).1
   have h1:(listed.setIfInBounds x true).getD x false=true:=zv0 hi |>.2 (.inl rfl)
   have h2:listed.getD x false=false:=by unfold li at hu;simpa using hu
   have h3:q.countP (λ j=>!(listed.setIfInBounds x true).getD j false)=q.countP λ j=>!listed.getD j false:=by
    refine List.countP_congr λ j hj=>?_
    rw [hne j (λ e=>hni (e ▸ hj))]
   simp only [qh,h1,h2,h3]
   simp
  ·have ih:=zr1 hi hu q (List.nodup_cons.1 hn).2 (by
    rcases List.mem_cons.1 hm with h | h
    ·exact absurd h.symm e
    ·exact h)
   simp only [qh,hne x e]
   omega
theorem Inv.done (r:Run P tab all cf L st) {w0:World} {W0:Fr} {c0:Ctx} {listed:Array Bool} {a:Act} {w:World} {c:Ctx} {k:Nat} {E:Nat→Nat→Option Value} {bl:Nat→Nat} (v:Inv tab all st w0 W0 c0 listed a w c k E bl) (h:∀ i,i < all.size→li listed i) :
  ∃ c',c0.Le c'∧Rel w0 W0 c' (st all.size) a w:=by
 obtain ⟨c',k',E',v',hk,hq⟩:=v.claims r (i:=all.size) (qa _) (all.size - k) (qa _) v.kN λ j oj _ h1 _ _=>h j h1
 have hidle:=r.idle' hk (qa _) hq
 have hsit:Sit w0 W0 c' (hp (st k').H) w:=⟨v'.sit.keep,v'.sit.own,v'.sit.dis,v'.sit.sep,v'.sit.old,v'.sit.new,λ b i u hu=>v'.sit.res b i u (v'.res b i u hu),v'.sit.pl,v'.sit.mo⟩
 refine ⟨c',v'.le,?_,?_,λ t=>?_,?_,v'.df⟩
 ·rw [hidle.1];exact hsit
 ·rw [hidle.2];exact v'.nx
 ·by_cases hw:∃ (j:Nat) (o:Oper),all[j]?=some o∧o.dst=some t
  ·obtain ⟨j,o,ho,hd⟩:=hw
   exact v'.v1 j o ho (h j (znK ho)) (λ hk2=>Nat.lt_of_not_le λ hge=>hq j o hge (znK ho) ho hk2) t hd _ (znK ho) (qa _)
  ·exact v'.v2 t (λ j o ho _ hd=>hw ⟨j,o,ho,hd⟩) _ (qa _) λ j o ho _ hd=>hw ⟨j,o,ho,hd⟩
 ·rw [v'.tsz,r.nt _ (qa _)]
theorem Inv.any (htab:zlK P tab) (r:Run P tab all cf L st) {w0:World} {W0:Fr} {c0:Ctx} {Q:Exit→Act→World→Prop} (hQ:∀ a w c,c0.Le c→Rel w0 W0 c (st all.size) a w→Q .normal a w) :
  ∀ (fuel:Nat) (listed:Array Bool) (a:Act) (w:World) (c:Ctx) (k:Nat) (E:Nat→Nat→Option Value) (bl:Nat→Nat),Inv tab all st w0 W0 c0 listed a w c k E bl→zr0 all listed≤fuel→wpAny P .any all Q fuel listed a w:=by
 have hend:∀ (listed:Array Bool) (a:Act) (w:World) (c:Ctx) (k:Nat) (E:Nat→Nat→Option Value) (bl:Nat→Nat),Inv tab all st w0 W0 c0 listed a w c k E bl→Region.ready .any all listed=[]→Q .normal a w:=by
  intro listed a w c k E bl v hempty
  suffices hall:∀ i,i < all.size→li listed i by
   obtain ⟨c',h1,h2⟩:=v.done r hall
   exact hQ a w c' h1 h2
  intro i
  induction i using Nat.strongRecOn with
  | ind i ih =>
   intro hi
   obtain ⟨o,ho⟩:=there hi
   by_cases hl:li listed i
   ·exact hl
   ·exfalso
    have:i∈Region.ready .any all listed:=(zqv v.sz).2 ⟨o,ho,hl,λ e he hb=>by
     have:=(r.chk.one i o ho).2 e he hb
     exact ih e.on this (by omega)⟩
    rw [hempty] at this
    simp at this
 intro fuel
 induction fuel with
 | zero =>
  intro listed a w c k E bl v hf
  have hr:Region.ready .any all listed=[]:=by
   rw [List.eq_nil_iff_forall_not_mem]
   intro i hi
   obtain ⟨o,ho,hu,_⟩:=(zqv v.sz).1 hi
   have h0:zr0 all listed=0:=by omega
   unfold zr0 at h0
   rw [List.countP_eq_zero] at h0
   have:=h0 i (List.mem_range.2 (znK ho))
   unfold li at hu
   simp at this hu
   rw [this] at hu;cases hu
  exact ⟨hr,hend listed a w c k E bl v hr⟩
 | succ fuel ih =>
  intro listed a w c k E bl v hf
  refine ⟨hend listed a w c k E bl v,λ i hi=>?_⟩
  obtain ⟨o,ho,hu,hr⟩:=(zqv v.sz).1 hi
  refine v.turn htab r ho hu hr λ a' w' c' k' E' bl' v'=>ih _ a' w' c' k' E' bl' v' ?_
  have:=zr1 (i:=i) (by rw [v.sz];exact znK ho) hu (List.range all.size) List.nodup_range (List.mem_range.2 (znK ho))
  unfold zr0 at hf ⊢
  omega
theorem zyN {w0:World} {W0:Fr} {c:Ctx} {s:St} {a:Act} {w:World} (hr:Rel w0 W0 c s a w):Rel w0 W0 c s a { w with drawn:=w.drawn+1 }:=by
 obtain ⟨h1,h2⟩:=hr.sit.idle (zn7 w)
 exact ⟨h1,hr.nx,λ i=>(hr.tmp i).mono (.refl c) h2,hr.sz,hr.df⟩
theorem zv1 (htab:zlK P tab) (hm:P.follows .mixedOrders=true) (hchk:chk cf all=true) {s:St} {K:St→Prop} (h:zoY P tab all cf all.toList 0 s [] K) {w0:World} {W0:Fr} {c:Ctx} {a:Act} {w:World} (hr:Rel w0 W0 c s a w) {Q:Exit→Act→World→Prop}
  (hn:∀ s' a' w' c',c.Le c'→Rel w0 W0 c' s' a' w'→K s'→Q .normal a' w') {id:Nat}:(Code.region id all true).wp P Q a w:=by
 have hc:=zBw hchk
 obtain ⟨st,L',h0,hK,hlog,_,hst⟩:=zrX all.toList 0 s [] h (λ o ho=>by
  obtain ⟨i,hi,rfl⟩:=qb ho
  exact (hc.one i all.toList[i] (by simp)).1)
 have hrun:Run P tab all cf L' st:=⟨hc,hlog,λ i o hi=>by
  have hlt:=znK hi
  have:=hst i (by simpa using hlt)
  have he:all.toList[i]'(by simpa using hlt)=o:=by
   rw [Array.getElem?_eq_getElem hlt] at hi
   simpa using hi
  rw [he] at this
  simpa using this⟩
 simp only [qd,Array.length_toList] at hK
 refine wp_region_any hm (Inv.any htab hrun (c0:=c) (w0:=w0) (W0:=W0) (λ a' w' c' hle hrel=>hn _ a' w' c' hle hrel hK) all.size (Array.replicate all.size false) a _ c 0 W0.e (λ _=>0) ?_ ?_)
 ·have hr':=zyN hr
  have hno:∀ j,¬ li (Array.replicate all.size false) j:=λ j hj=>by
   unfold li at hj
   by_cases hlt:j < all.size
   ·simp [hlt] at hj
   ·simp [hlt] at hj
  refine ⟨by simp,λ j o _ hj=>absurd hj (hno j),.refl c,Nat.zero_le _,by rw [h0];exact hr'.nx,by rw [h0];exact hr'.sit,λ _ _ _ h=>h,λ j o _ _ h=>by omega,λ j o _ _ hj=>absurd hj (hno j),λ j _ _ _ _ _ _ _ hj=>absurd hj (hno j),λ j o _ hj=>absurd hj (hno j),λ t _ m hm hw=>?_,?_,hr'.df⟩
  ·have:=hrun.lasts (a:=0) (t:=t) (by rw [h0];exact hr'.tmp t) m (by omega) λ j o _ h2 ho=>hw j o ho (by omega)
   simpa using this
  ·rw [h0];exact hr'.sz
 ·unfold zr0
  exact Nat.le_trans List.countP_le_length (by simp)
end
end Go.TL

import Derived.Test.YteonagfnhdlfcaaGreatDoorTlAuto
import Derived.Test.YteonagfnhdlfcaaGreatDoorTlStep
open Nat renaming reduceAdd → qA, reduceMul → qB, reduceSub → qC, reduceEqDiff → qD, reduceLT → qE, reduceLeDiff → qF, reduceBEq → qG, zero_add → qe
open Int renaming reduceToNat → qH, reduceEq → qI, reduceLE → qJ, reduceLT → qK
open List renaming length_set → qL, length_append → qM, length_replicate → qN, length_map → qO, length_cons → qP, length_nil → qQ, getElem_cons_zero → qa, getElem_cons_succ → qb, getElem_mem → qc, getElem_map → qd, getElem_of_mem → qf
set_option linter.unusedSimpArgs false
set_option linter.unusedVariables false
noncomputable section
namespace Go.TL
open Go
def cvR:Option (List Leaf)→Option LV
 | some l=>some (.ra true l)
 | none=>none
def cvL:Option Leaf→Option (List Leaf)→Option (List Leaf)
 | some x,some y=>some (x :: y)
 | _,_=>none
def lfO (o:Option (Bool×Ob)) (es lo len:Nat):Option Leaf:=match o with
 | some (_,.arr _ es' rows)=>if es'=es∧lo+len≤rows.length then some (.sl ((rows.drop lo).take len)) else none
 | some (_,.deep ss rows)=>if ss.length=es∧lo+len≤rows.length then some (.sl ((rows.drop lo).take len)) else none
 | _=>none
def zzu (p:Option Nat) (o:Option (Bool×Ob)) (H:zkO) (off:Nat):Option LV:=match p with
 | some k=>some (.pb k off)
 | none=>match o with
  | some (_,.box ls)=>cvR (zlV H (ls.drop off))
  | _=>none
def zxY (p:Option Nat) (o:Option (Bool×Ob)) (H:zkO) (es i off:Nat):Option LV:=match p with
 | some k=>some (.pe k es i off)
 | none=>match o with
  | some (_,.arr _ es' rows)=>if es'=es∧i < rows.length then some (.ra true ((rows.getD i []).drop off)) else none
  | some (_,.deep ss rows)=>if ss.length=es∧i < rows.length then some (.ra true ((rows.getD i []).drop off)) else none
  | some (_,.foc ss _ p ks)=>if ss.length=es∧i=p then cvR (zlV H (ks.drop off)) else none
  | _=>none
def hdO (k:Nat):Option Ob→Option HL→Option HL
 | some o,some l=>some ((k,some (false,o)) :: l)
 | _,_=>none
def hdI (ids:List Nat) (H:zkO) (k:Nat) (o:Option (Bool×Ob)) (r:Option HL):Option HL:=match o with
 | some (_,o)=>hdO k (zml ids H o) r
 | none=>none
namespace S
variable (ids:List Nat) (H:zkO)
@[go_sem] theorem zGl {α β:Type} (f:α→β):Option.map f none=none:=rfl
@[go_sem] theorem zGm {α β:Type} (f:α→β) (a:α):Option.map f (some a)=some (f a):=rfl
@[go_sem] theorem zEZ:zlV H []=some []:=rfl
@[go_sem] theorem zDD (lv:LV) (r:List LV):zlV H (lv :: r)=cvL (znn H lv) (zlV H r):=by
 simp only [zlV]
 unfold cvL
 cases znn H lv<;>cases zlV H r<;>rfl
@[go_sem] theorem zGn (x:Leaf) (y:List Leaf):cvL (some x) (some y)=some (x :: y):=rfl
@[go_sem] theorem zGo (y:List Leaf):cvR (some y)=some (.ra true y):=rfl
@[go_sem] theorem zF1 (t:Bool) (l:Leaf):znn H (.lf t l)=some l:=rfl
@[go_sem] theorem zF2:znn H .nl=some (.sl []):=rfl
@[go_sem] theorem zF3 (id es lo len mc:Nat) (ex:Bool):znn H (.os id es lo len mc ex)=lfO (H id) es lo len:=by
 simp only [znn]
 unfold lfO
 rcases H id with _ | ⟨fr,o⟩
 ·rfl
 ·cases o<;>rfl
@[go_sem] theorem zF4 (fr t:Bool) (es':Nat) (rows:List (List Leaf)) (es lo len:Nat):lfO (some (fr,.arr t es' rows)) es lo len=if es'=es∧lo+len≤rows.length then some (.sl ((rows.drop lo).take len)) else none:=rfl
@[go_sem] theorem zF5 (fr:Bool) (ss:List DSh) (rows:List (List Leaf)) (es lo len:Nat):lfO (some (fr,.deep ss rows)) es lo len=if ss.length=es∧lo+len≤rows.length then some (.sl ((rows.drop lo).take len)) else none:=rfl
@[go_sem] theorem zCC (id off:Nat):zmj ids H (.pb id off)=zzu (pos ids id) (H id) H off:=by
 simp only [zmj]
 unfold zzu
 cases pos ids id with
 | some k=>rfl
 | none =>
  rcases H id with _ | ⟨fr,o⟩
  ·rfl
  ·cases o with
   | box ls=>simp only;cases zlV H (ls.drop off)<;>rfl
   | _=>rfl
@[go_sem] theorem zBr (id off:Nat):conv ids H (.pb id off)=zzu (pos ids id) (H id) H off:=zCC ids H id off
@[go_sem] theorem zE0 (k:Nat) (o:Option (Bool×Ob)) (off:Nat):zzu (some k) o H off=some (.pb k off):=rfl
@[go_sem] theorem zE1 (fr:Bool) (ls:List LV):zzu none (some (fr,.box ls)) H 0=cvR (zlV H ls):=rfl
@[go_sem] theorem zCD (id es i off:Nat):zmj ids H (.pe id es i off)=zxY (pos ids id) (H id) H es i off:=by
 simp only [zmj]
 unfold zxY
 cases pos ids id with
 | some k=>rfl
 | none =>
  rcases H id with _ | ⟨fr,o⟩
  ·rfl
  ·cases o with
   | foc ss rows p ks=>simp only;split<;>(try rfl)
   | _=>rfl
@[go_sem] theorem zF6 (id es i off:Nat):conv ids H (.pe id es i off)=zxY (pos ids id) (H id) H es i off:=zCD ids H id es i off
@[go_sem] theorem zE2 (k:Nat) (o:Option (Bool×Ob)) (es i off:Nat):zxY (some k) o H es i off=some (.pe k es i off):=rfl
@[go_sem] theorem zE3 {α:Type} [Inhabited α] (fr:Bool) (ss:List DSh) (f:α→List Leaf) (l:List α) (es i:Nat) (h:i < l.length):zxY none (some (fr,.deep ss (l.map f))) H es i 0=if ss.length=es then some (.ra true (f (nth l i))) else none:=by
 have e:(l.map f).getD i []=f (nth l i):=zy3 h
 show (if ss.length=es∧i < (l.map f).length then some (LV.ra true (((l.map f).getD i []).drop 0)) else none)=_
 rw [e,List.drop_zero]
 by_cases hs:ss.length=es
 ·rw [if_pos ⟨hs,by simpa using h⟩,if_pos hs]
 ·rw [if_neg λ h=>hs h.1,if_neg hs]
@[go_sem] theorem zE4 (fr:Bool) (ss:List DSh) (rows:List (List Leaf)) (p:Nat) (ks:List LV) (es i:Nat):zxY none (some (fr,.foc ss rows p ks)) H es i 0=if ss.length=es∧i=p then cvR (zlV H ks) else none:=rfl
@[go_sem] theorem zE5 (k:Nat):zmv ids H k []=some []:=rfl
@[go_sem] theorem zDE (k id:Nat) (r:List Nat):zmv ids H k (id :: r)=hdI ids H k (H id) (zmv ids H (k+1) r):=by
 simp only [zmv]
 unfold hdI hdO
 rcases H id with _ | ⟨fr,o⟩
 ·rfl
 ·cases zmv ids H (k+1) r with
  | none=>simp only;cases zml ids H o<;>rfl
  | some l=>simp only;cases zml ids H o<;>rfl
@[go_sem] theorem zGp (k:Nat) (fr:Bool) (o:Ob) (r:Option HL):hdI ids H k (some (fr,o)) r=hdO k (zml ids H o) r:=rfl
@[go_sem] theorem zGq (k:Nat) (o:Ob) (l:HL):hdO k (some o) (some l)=some ((k,some (false,o)) :: l):=rfl
@[go_sem] theorem zE6 (ls:List LV):zml ids H (.box ls)=(zl9 ids H ls).map .box:=rfl
@[go_sem] theorem zE7 (t:Bool) (es:Nat) (rows:List (List Leaf)):zml ids H (.arr t es rows)=some (.arr true es rows):=rfl
@[go_sem] theorem zDF (ss:List DSh) (rows:List (List Leaf)):zml ids H (.deep ss rows)=some (.deep ss rows):=rfl
@[go_sem] theorem zE8 (ss:List DSh) (rows:List (List Leaf)) (p:Nat) (ks:List LV):zml ids H (.foc ss rows p ks)=(zl9 ids H ks).map (.foc ss rows p):=rfl
end S
section
variable {E:Env} {s:St} {st:List Fm}
theorem zAQ {g:FuncId} {caps args args1 args':List LV} {ids:List Nat} {H0 H1:HL} {nxr:Nat} {res:LV} {wd dst:Option Nat} {md:Md} {all:Array Oper} {r:List Oper} (h:Fn E.P g args' H0 ids.length res H1 nxr)
  (h1:zlW ids (hp s.H) (args++caps)=some args1) (hf:FitAll args1 args') (h3:zmv ids (hp s.H) 0 ids=some H0) (h4:ids.Nodup) (h5:(zli ids (hp s.H) (args++caps)).all (λ i=>!ids.contains i)=true)
  (h6:zvE res=true∧∀ p∈H1,∀ o,p.2=some o→zmw o.2=true) (h7:(List.range ids.length).all (λ k=>(zkm H1 k).isSome)=true)
  (hK:R E (md.nx wd s.H (zl4 ids (hp s.H) s.nx H1 s.H)) all r (s.put dst (zpz ids s.nx res) (zl4 ids (hp s.H) s.nx H1 s.H) (s.nx+(nxr - ids.length))) st):Cl E (.fn g caps) args wd dst md all r s st:=by
 have h5':∀ i∈zli ids (hp s.H) (args++caps),i∉ids:=λ i hi hm=>by
  have:=List.all_eq_true.1 h5 i hi
  rw [List.contains_iff_mem.2 hm] at this
  cases this
 unfold Cl
 exact ⟨h.1,ids,args',args1,H0,res,H1,nxr,h1,hf,h3,h4,h5',h.2,.inr h6,λ k hk=>List.all_eq_true.1 h7 k (List.mem_range.2 hk),hK⟩
theorem zzv {g:FuncId} {caps args args':List LV} (ids:List Nat) {H0 H1:HL} {nxr:Nat} {res:LV} {wd dst:Option Nat} {md:Md} {all:Array Oper} {l:List Oper} (h:Fn E.P g args' H0 ids.length res H1 nxr)
  (hK:R E (md.nx wd s.H (zl4 ids (hp s.H) s.nx H1 s.H)) all l (s.put dst (zpz ids s.nx res) (zl4 ids (hp s.H) s.nx H1 s.H) (s.nx+(nxr - ids.length))) st)
  (h1:zlW ids (hp s.H) (args++caps)=some args':=by first | rfl | (simp (disch:=first | assumption | (simp only [qL];assumption)) only [go_sem,qA,qB,qC,qD,↓reduceIte,qE,reduceCtorEq,qF,qH,qI,qJ,qK,qG];first | done | rfl) | (simp only [qM,qP,qQ,qO,qL,qN,qe,qA];rfl) | (simp (disch:=first | assumption | (simp only [qL];assumption)) only [go_sem,qA,qB,qC,qD,↓reduceIte,qE,reduceCtorEq,qF,qH,qI,qJ,qK,qG];simp only [qM,qP,qQ,qO,qL,qN,qe,qA];rfl))
  (h3:zmv ids (hp s.H) 0 ids=some H0:=by first | rfl | (simp (disch:=first | assumption | (simp only [qL];assumption)) only [go_sem,qA,qB,qC,qD,↓reduceIte,qE,reduceCtorEq,qF,qH,qI,qJ,qK,qG];first | done | rfl) | (simp only [qM,qP,qQ,qO,qL,qN,qe,qA];rfl) | (simp (disch:=first | assumption | (simp only [qL];assumption)) only [go_sem,qA,qB,qC,qD,↓reduceIte,qE,reduceCtorEq,qF,qH,qI,qJ,qK,qG];simp only [qM,qP,qQ,qO,qL,qN,qe,qA];rfl)) (h4:ids.Nodup:=by decide) (h5:(zli ids (hp s.H) (args++caps)).all (λ i=>!ids.contains i)=true:=by rfl) (h6:zvE res=true∧∀ p∈H1,∀ o,p.2=some o→zmw o.2=true:=by exact ⟨rfl,by simp [zmw,zpr]⟩) (h7:(List.range ids.length).all (λ k=>(zkm H1 k).isSome)=true:=by rfl):Cl E (.fn g caps) args wd dst md all l s st :=
 zAQ h h1 (FitAll.refl _) h3 h4 h5 h6 h7 hK
end
end Go.TL
namespace Go.TL
section
variable {E:Env} {s:St} {st:List Fm}
theorem zt9 {id:Nat} {ops:Array Oper} {dr:Bool} (k:Nat) (h:Gh E false id ops dr (s.pack k) st) (hp:zoR s.H k:=by ((try simp (disch:=first | assumption | (simp only [qL];assumption)) only [go_sem,qA,qB,qC,qD,↓reduceIte,qE,reduceCtorEq,qF,qH,qI,qJ,qK,qG]);(repeat' first | done | rfl | omega | assumption | refine And.intro ?_ ?_ | (simp;done) | (simp;omega)))):Gh E true id ops dr s st:=ztV _ (zqz k hp) h
end
end Go.TL
namespace Go.TL
@[go_sem] theorem zCE {α β:Type} (l:List α) (i:Nat) (x:α) (e:α→β) (a b:β):(List.map e (l.set i x)++[a]).set l.length b=List.map e (l.set i x)++[b]:=by rw [List.set_append_right _ _ (by simp)];simp
@[go_sem] theorem zDG {α:Type} (l:List α) (i:Nat) (u:α):List.take l.length (l.set i u)=l.set i u:=zqO
end Go.TL
namespace Go.TL
open Go
def E3 {β:Type} (f1 f2 f3:β→Value) (x:β):List Leaf:=[.raw (f1 x),.raw (f2 x),.raw (f3 x)]
@[go_sem] theorem E3_ {β:Type} (f1 f2 f3:β→Value) (x:β):E3 f1 f2 f3 x=[.raw (f1 x),.raw (f2 x),.raw (f3 x)]:=rfl
def zzw (P:Program) (f:FuncId) (by_:Nat):Prop:=∀ (β:Type) (f1 f2 f3:β→Value) (l:List β) (i j:Int) (m0:Nat) (x0:Bool),0≤i→i≤j→j≤(l.length:Int)→l.length * by_≤140737488355328 →
 Fn P f [(.os 0 3 0 l.length m0 x0),(.lf false (.sc (.int .i64 i))),(.lf false (.sc (.int .i64 j)))] [(0,some (false,.arr true 3 (l.map (E3 f1 f2 f3))))] 1
  (.os 1 3 0 (l.take i.toNat++l.drop j.toNat).length (l.take i.toNat++l.drop j.toNat).length false)
  [(0,none),(1,some (false,.arr true 3 ((l.take i.toNat++l.drop j.toNat).map (E3 f1 f2 f3))))] 2
theorem zua {w:World} {S:zkF} {u v:Value} (h:RepL w S u (.raw v)):u=v:=by cases h;rfl
theorem zxZ {w:World} {B:Nat→Prop} {s:DSh} {v:Value} {l:Leaf} (h:RepD w B s v l):v.oneCell'=true∧v.cells=#[v]:=by
 cases h with
 | sc h=>revert h;cases v<;>simp [zpm,Value.oneCell',Value.cells]
 | sl=>exact ⟨rfl,rfl⟩
theorem zAR {P:Program} {f:FuncId} {by_:Nat} (hdel:zzw P f by_) {ss:List DSh} (hss:ss.length=3) {rows:List (List Leaf)} {p:Nat} {ks:List LV} {m0:Nat} {x0:Bool}
  (hks:ks.all flat=true) (hpl:p < rows.length) (hsz:rows.length * by_≤140737488355328) :
  Fn P f [(.os 0 3 0 rows.length m0 x0),(.lf false (.sc (.int .i64 (p:Int)))),(.lf false (.sc (.int .i64 ((p:Int)+1))))] [(0,some (false,.foc ss rows p ks))] 1
   (.os 1 3 0 (rows.take p++rows.drop (p+1)).length (rows.take p++rows.drop (p+1)).length false)
   [(0,none),(1,some (false,.deep ss (rows.take p++rows.drop (p+1))))] 2:=by
 refine ⟨(hdel Unit (λ _=>.bool true) (λ _=>.bool true) (λ _=>.bool true) [] 0 0 0 false (by omega) (by omega) (by simp) (by simp)).1,λ w F loc vs hsit hvs hv=>?_⟩
 have hH0:Holds w (zm6 F loc 1) (loc 0) (.foc ss rows p ks):=(hsit.own 0 (_,_) (by rfl)).2
 obtain ⟨g1,g0,g2,⟨B,b1,b2,b3⟩,gp,gk,g4⟩:=id hH0
 rw [hss] at g1 gk
 have hn:0 < (loc 0).n:=by omega
 have hcell:∀ (i:Fin rows.length) (j:Fin 3),∃ v,w.cell? ⟨(loc 0).b,(loc 0).base+(i.1 * 3+j.1),none⟩=some v:=λ i j=>by
  have:=zk1 i.2 j.2
  obtain ⟨v,hv,_⟩:=g2 (i.1 * 3+j.1) (by omega)
  exact ⟨v,hv⟩
 obtain ⟨hd,hhd⟩:∃ hd:Fin rows.length→Fin 3→Value,∀ i j,w.cell? ⟨(loc 0).b,(loc 0).base+(i.1 * 3+j.1),none⟩=some (hd i j):=⟨λ i j=>(hcell i j).choose,λ i j=>(hcell i j).choose_spec⟩
 have hrow:∀ i:Fin rows.length,(rows[i.1]).length=3:=λ i=>by rw [g0 _ (qc i.2),hss]
 have hrep:∀ (i:Fin rows.length) (j:Fin 3),i.1≠p→RepD w (B i.1 j.1) (ss[j.1]'(by rw [hss];exact j.2)) (hd i j) ((rows[i.1])[j.1]'(by rw [hrow];exact j.2)):=λ i j hip =>
  b3 i.1 j.1 i.2 (by rw [hrow];exact j.2) (by rw [hss];exact j.2) _ hip (by rw [hss];exact hhd i j)
 have hone:∀ (i:Fin rows.length) (j:Fin 3),(hd i j).oneCell'=true∧(hd i j).cells=#[hd i j]:=λ i j=>by
  by_cases hip:i.1=p
  ·have hc:=hhd i j
   rw [hip] at hc
   have:=g4 j.1 (by omega) (hd i j) (by rw [hss];exact hc)
   exact znl (List.all_eq_true.1 hks _ (qc _)) this
  ·exact zxZ (hrep i j hip)
 obtain ⟨loc',hloc'⟩:∃ loc':Nat→Loc,loc'=λ _=>⟨(loc 0).b,(loc 0).base,(loc 0).n,λ _=>False⟩:=⟨_,rfl⟩
 have hin:∀ b k,inR (loc' 0) b k→b=(loc 0).b:=λ b k h=>by
  rw [hloc'] at h
  rcases h with h | h
  ·exact h.1
  ·exact h.elim
 have hin0:∀ b k,inR (loc' 0) b k→inR (loc 0) b k:=λ b k h=>.inl ⟨hin b k h,hn⟩
 have hH:∀ (o:Ob) (id:Nat) (x:Bool×Ob),hp [(0,some (false,o))] id=some x→id=0∧x=(false,o):=λ o id x h=>by
  by_cases e:id=0
  ·subst e;cases h;exact ⟨rfl,rfl⟩
  ·rw [zkD,zle _ _ e] at h;cases h
 have hl:(List.finRange rows.length).length=rows.length:=List.length_finRange
 have hA:Holds w (zm6 F loc' 1) (loc' 0) (.arr true 3 ((List.finRange rows.length).map (E3 (λ i=>hd i 0) (λ i=>hd i 1) (λ i=>hd i 2)))):=by
  refine ⟨by rw [qO,hl,hloc'];exact g1,λ r hr=>?_,λ j hj=>?_,λ i j hi hj v hv=>?_⟩
  ·obtain ⟨x,_,rfl⟩:=List.mem_map.1 hr;rfl
  ·rw [hloc'] at hj ⊢;exact g2 j hj
  ·rw [qO,hl] at hi
   simp only [qd,E3] at hj ⊢
   have hj3:j < 3:=hj
   rw [hloc'] at hv
   have hv':w.cell? ⟨(loc 0).b,(loc 0).base+(i * 3+j),none⟩=some v:=hv
   have hc:=hhd ⟨i,hi⟩ ⟨j,hj3⟩
   rw [hv'] at hc
   cases hc
   have h1:=hone ⟨i,hi⟩ ⟨j,hj3⟩
   have e:(List.finRange rows.length)[i]'(by rw [hl];exact hi)=⟨i,hi⟩:=by simp
   match j,hj3 with
   | 0,_=>simp only [qa,e];exact .raw h1.1 h1.2
   | 1,_=>simp only [qb,qa,e];exact .raw h1.1 h1.2
   | 2,_=>simp only [qb,qa,e];exact .raw h1.1 h1.2
 have hrng:∀ (o o':Ob) b k,rng loc' (hp [(0,some (false,o))]) b k→rng loc (hp [(0,some (false,o'))]) b k:=λ o o' b k ⟨id,x,h1,h2⟩=>by
  obtain ⟨rfl,_⟩:=hH _ _ _ h1
  exact ⟨0,_,rfl,hin0 b k h2⟩
 have hs':Sit w (frm (rng loc' (hp [(0,some (false,Ob.arr true 3 ((List.finRange rows.length).map (E3 (λ i=>hd i 0) (λ i=>hd i 1) (λ i=>hd i 2)))))]))) (zm6 F loc' 1) (hp [(0,some (false,Ob.arr true 3 ((List.finRange rows.length).map (E3 (λ i=>hd i 0) (λ i=>hd i 1) (λ i=>hd i 2)))))]) w:=by
  refine ⟨Keep.refl _ w,λ id o h=>?_,λ i j oi oj hi hj hij=>?_,λ id o h b k hb=>?_,λ b k h=>⟨(hsit.old b k h).1,λ hr=>(hsit.old b k h).2 (hrng _ _ b k hr)⟩,λ b k h=>h.elim,λ b k v h=>(by cases h),λ id o h b k hb k'=>?_,λ id o h x hx=>?_⟩
  ·obtain ⟨rfl,rfl⟩:=hH _ _ _ h
   exact ⟨Nat.zero_lt_one,hA⟩
  ·exact absurd ((hH _ _ _ hi).1.trans (hH _ _ _ hj).1.symm) hij
  ·obtain ⟨rfl,rfl⟩:=hH _ _ _ h
   refine ⟨(hsit.sep 0 (_,_) (by rfl) b k (hin0 b k hb)).1,λ _ h=>h,.inl ⟨rfl,0,_,rfl,hb⟩⟩
  ·obtain ⟨rfl,rfl⟩:=hH _ _ _ h
   exact hsit.pl 0 (_,_) (by rfl) b k (hin0 b k hb) k'
  ·obtain ⟨rfl,rfl⟩:=hH _ _ _ h
   rw [hloc'] at hx;exact hx.elim
 have hv':∀ j (hj:j < 3),∃ v,vs[j]?=some v∧Cv w (zm6 F loc' 1) ([(.os 0 3 0 (List.finRange rows.length).length m0 x0),(.lf false (.sc (.int .i64 (p:Int)))),(.lf false (.sc (.int .i64 ((p:Int)+1))))][j]'hj) v:=λ j hj=>by
  obtain ⟨v,h1,h2⟩:=hv j hj
  refine ⟨v,h1,?_⟩
  match j,hj with
  | 0,_ =>
   simp only [qa] at h2 ⊢
   rw [hl]
   cases h2 with
   | os hid hl0 hm0 hx0 ha0 hn0=>exact .os hid hl0 hm0 hx0 (by rw [hloc'];exact ha0) (by rw [hloc'];exact hn0)
  | 1,_ =>
   simp only [qb,qa] at h2 ⊢
   cases h2 with | lf h=>cases h with | sc h=>exact .lf (.sc h)
  | 2,_ =>
   simp only [qb,qa] at h2 ⊢
   cases h2 with | lf h=>cases h with | sc h=>exact .lf (.sc h)
 have hcall:=(hdel (Fin rows.length) (λ i=>hd i 0) (λ i=>hd i 1) (λ i=>hd i 2) (List.finRange rows.length) (p:Int) ((p:Int)+1) m0 x0 (by omega) (by omega) (by rw [hl];omega) (by rw [hl];exact hsz)).2 w F loc' vs hs' hvs hv'
 have et:((p:Int)+1).toNat=p+1:=by omega
 rw [Int.toNat_natCast,et] at hcall
 obtain ⟨idx,hidx⟩:∃ idx,idx=(List.finRange rows.length).take p++(List.finRange rows.length).drop (p+1):=⟨_,rfl⟩
 rw [← hidx] at hcall
 have hrows:rows.take p++rows.drop (p+1)=idx.map λ i=>rows[i.1]:=by
  have e1:rows=(List.finRange rows.length).map λ i=>rows[i.1]:=List.ext_getElem (by simp) λ i h1 h2=>by simp
  conv=>lhs;rw [e1]
  rw [hidx,List.map_append,List.map_take,List.map_drop]
 have hnep:∀ x∈idx,x.1≠p:=λ x hx=>by
  rw [hidx,List.mem_append] at hx
  rcases hx with hx | hx
  ·obtain ⟨k,hk,e⟩:=qf hx
   rw [List.length_take] at hk
   rw [List.getElem_take] at e
   simp at e
   rw [← e]
   show k≠p
   omega
  ·obtain ⟨k,hk,e⟩:=qf hx
   rw [List.getElem_drop] at e
   simp at e
   rw [← e]
   show p+1+k≠p
   omega
 have hnd:idx.Nodup:=by
  have h1:(List.finRange rows.length).Nodup:=List.nodup_finRange _
  rw [hidx]
  have h2:(List.finRange rows.length).take p++(List.finRange rows.length).drop (p+1)=(List.finRange rows.length).eraseIdx p:=by rw [List.eraseIdx_eq_take_drop_succ]
  rw [h2]
  exact h1.sublist (List.eraseIdx_sublist _ _)
 rw [hrows,qO]
 refine hcall.mono λ e w' ⟨v,c',he,hle,hnx,hs,hcr⟩=>?_
 have hH2:∀ (o:Ob) (id:Nat) (x:Bool×Ob),hp [(0,none),(1,some (false,o))] id=some x→id=1∧x=(false,o):=λ o id x h=>by
  rw [zkD] at h
  by_cases e:id=0
  ·rw [e,zlf] at h;cases h
  ·rw [zle _ _ e,zkD] at h
   by_cases e1:id=1
   ·subst e1;cases h;exact ⟨rfl,rfl⟩
   ·rw [zle _ _ e1] at h;cases h
 have hL:=(hs.own 1 (_,_) (by rfl)).2
 obtain ⟨k1,k2,k3,k4⟩:=hL
 rw [qO] at k1
 have hsep1:=hs.sep 1 (_,_) (by rfl)
 have htop:∀ b,b=(c'.loc 1).b→0 < (c'.loc 1).n→b=(loc 0).b∨w.heap.size≤b:=λ b e hn1=>by
  rcases (hsep1 b 0 (.inl ⟨e,hn1⟩)).2.2 with ⟨_,id,x,h1,h2⟩ | h
  ·obtain ⟨rfl,_⟩:=hH _ _ _ h1
   exact .inl (hin _ _ h2)
  ·exact .inr h
 have hmo:∀ x,(loc 0).more x→x < w.heap.size:=λ x hx=>(hsit.mo 0 (_,_) (by rfl) x hx).1
 have hBne:∀ i j x,B i j x→0 < (c'.loc 1).n→x≠(c'.loc 1).b:=λ i j x hx hn1 e=>by
  rcases htop x e hn1 with h | h
  ·exact (b1 i j x hx).2 h
  ·have:=hmo x (b1 i j x hx).1;omega
 obtain ⟨c2,hc2⟩:∃ c2:Ctx,c2={ c' with loc:=λ k=>if k=1 then ⟨(c'.loc 1).b,(c'.loc 1).base,(c'.loc 1).n,λ x=>(loc 0).more x∧(0 < (c'.loc 1).n→x≠(c'.loc 1).b)⟩ else c'.loc k }:=⟨_,rfl⟩
 have hloc1:c2.loc 1=⟨(c'.loc 1).b,(c'.loc 1).base,(c'.loc 1).n,λ x=>(loc 0).more x∧(0 < (c'.loc 1).n→x≠(c'.loc 1).b)⟩:=by rw [hc2];rfl
 have hkeepB:∀ b k,(loc 0).more b→b≠(loc 0).b→w'.cell? ⟨b,k,none⟩=w.cell? ⟨b,k,none⟩:=λ b k hb hne=>hs.keep.cell b k (hmo b hb) λ ⟨id,x,h1,h2⟩=>by
  obtain ⟨rfl,_⟩:=hH _ _ _ h1
  exact hne (hin _ _ h2)
 have hF2:c2.F=F:=by rw [hc2];exact hle.F
 have hG2:c2.G=c'.G:=by rw [hc2]
 have hn2:c2.nx=2:=by rw [hc2];exact hnx
 have hmem:∀ {b k:Nat},inR (c2.loc 1) b k→(inR (c'.loc 1) b k∧b=(c'.loc 1).b∧0 < (c'.loc 1).n)∨(loc 0).more b:=λ {b k} hb=>by
  rw [hloc1] at hb
  rcases hb with hb | hb
  ·exact .inl ⟨.inl hb,hb.1,hb.2⟩
  ·exact .inr hb.1
 refine ⟨v,c2,he,⟨hF2,λ b k h=>h.elim,by rw [hn2];show 1≤2;omega,λ id hid=>?_⟩,hn2,⟨hs.keep.mono λ x y _ h=>hrng _ _ x y h,λ id o h=>?_,λ i j oi oj hi hj hij=>?_,λ id o h b k hb=>?_,λ b k h=>?_,λ b k h=>?_,λ b k v h=>(by cases h),λ id o h b k hb k'=>?_,λ id o h x hx=>?_⟩,?_⟩
 ·have e0:id=0:=by have:id < 1:=hid;omega
  subst e0
  have hsm:=hle.loc 0 hid
  rw [hc2]
  show (loc 0).same (c'.loc 0)
  rw [hloc'] at hsm
  exact hsm
 ·obtain ⟨rfl,rfl⟩:=hH2 _ _ _ h
  refine ⟨by rw [hn2];omega,?_⟩
  rw [hloc1]
  refine ⟨by rw [qO,hss];exact k1,λ r hr=>?_,k3,λ i j x=>∃ h:i < idx.length,B idx[i].1 j x,λ i j x ⟨h,hx⟩=>⟨⟨(b1 _ _ _ hx).1,hBne _ _ _ hx⟩,hBne _ _ _ hx (by omega)⟩,λ i j i' j' x hA hA'=>?_,λ i j hi hj hj' v hc=>?_⟩
  ·obtain ⟨x,_,rfl⟩:=List.mem_map.1 hr
   exact g0 _ (qc _)
  ·obtain ⟨h,hx⟩:=hA
   obtain ⟨h',hx'⟩:=hA'
   obtain ⟨q1,q2⟩:=b2 _ _ _ _ x hx hx'
   have e2:idx[i]=idx[i']:=Fin.ext q1
   refine ⟨?_,q2⟩
   rcases Nat.lt_trichotomy i i' with hlt | heq | hlt
   ·exact absurd e2 (List.pairwise_iff_getElem.1 hnd i i' _ _ hlt)
   ·exact heq
   ·exact absurd e2.symm (List.pairwise_iff_getElem.1 hnd i' i _ _ hlt)
  ·rw [qO] at hi
   have hj3:j < 3:=by omega
   rw [hss] at hc
   have h4:=k4 i j (by rw [qO];exact hi) (by simp only [qd,E3];exact hj3) v hc
   simp only [qd,E3] at h4 ⊢
   have ev:v=hd idx[i] ⟨j,hj3⟩:=by
    match j,hj3,h4 with
    | 0,_,h4=>simp only [qa] at h4;exact zua h4
    | 1,_,h4=>simp only [qb,qa] at h4;exact zua h4
    | 2,_,h4=>simp only [qb,qa] at h4;exact zua h4
   rw [ev]
   exact (hrep idx[i] ⟨j,hj3⟩ (hnep _ (qc _))).mono (λ x hx=>⟨hi,hx⟩) λ b k hb=>hkeepB b k (b1 _ _ _ hb).1 (b1 _ _ _ hb).2
 ·exact absurd ((hH2 _ _ _ hi).1.trans (hH2 _ _ _ hj).1.symm) hij
 ·obtain ⟨rfl,rfl⟩:=hH2 _ _ _ h
  rw [hF2,hG2]
  rcases hmem hb with ⟨hb,_⟩ | hb
  ·obtain ⟨q1,q2,q3⟩:=hsep1 b k hb
   rw [hle.F] at q1
   exact ⟨q1,q2,q3.imp (λ h=>⟨h.1,hrng _ _ b k h.2⟩) id⟩
  ·refine ⟨(hsit.sep 0 (_,_) (by rfl) b k (.inr hb)).1,λ k' hg=>?_,.inl ⟨rfl,0,_,rfl,.inr hb⟩⟩
   have h1:=(hs.new b k' hg).1
   have h2:=hmo b hb
   omega
 ·rw [hF2] at h
  exact hsit.old b k h
 ·rw [hG2] at h
  exact hs.new b k h
 ·obtain ⟨rfl,rfl⟩:=hH2 _ _ _ h
  rcases hmem hb with ⟨hb,_⟩ | hb
  ·exact hs.pl 1 (_,_) (by rfl) b k hb k'
  ·exact (hs.keep.frz b k' (hmo b hb)).trans (hsit.pl 0 (_,_) (by rfl) b k (.inr hb) k')
 ·obtain ⟨rfl,rfl⟩:=hH2 _ _ _ h
  rw [hloc1] at hx
  exact ⟨Nat.lt_of_lt_of_le (hmo x hx.1) hs.keep.size,rfl⟩
 ·cases hcr with
  | os hid hl0 hm0 hx0 ha0 hn0=>exact .os (by rw [hn2];omega) hl0 hm0 hx0 (by rw [hloc1];exact ha0) (by rw [hloc1];exact hn0)
end Go.TL

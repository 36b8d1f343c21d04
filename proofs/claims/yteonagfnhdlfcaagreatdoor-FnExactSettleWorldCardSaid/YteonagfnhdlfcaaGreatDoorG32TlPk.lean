import Derived.Test.YteonagfnhdlfcaaGreatDoorTlAuto
open Nat renaming reduceAdd → qA, reduceMul → qB, reduceSub → qC, reduceEqDiff → qD, reduceLT → qE, reduceLeDiff → qF, reduceBEq → qG, zero_add → qa
open Int renaming reduceToNat → qH, reduceEq → qI, reduceLE → qJ, reduceLT → qK
open List renaming length_set → qL, length_append → qM, length_replicate → qN, length_map → qO, length_cons → qP, length_nil → qQ
set_option linter.unusedSimpArgs false
set_option linter.unusedVariables false
noncomputable section
namespace Go.TL
section
variable {E:Env} {s:St} {st:List Fm}
theorem zvm {id:Nat} {ops:Array Oper} {dr:Bool} (k:Nat) (h:Gh E false id ops dr (s.pack k) st) (hp:zs3 s.H k:=by ((try simp (disch:=first | assumption | (simp only [qL];assumption)) only [go_sem,qA,qB,qC,qD,↓reduceIte,qE,reduceCtorEq,qF,qH,qI,qJ,qK,qG]);(repeat' first | done | rfl | omega | assumption | refine And.intro ?_ ?_ | (simp;done) | (simp;omega)))):Gh E true id ops dr s st:=zu2 _ (zrK k hp) h
end
end Go.TL
namespace Go.TL
open Go
def cvR:Option (List Leaf)→Option LV
 | some l=>some (.ra true l)
 | none=>none
def cvL:Option Leaf→Option (List Leaf)→Option (List Leaf)
 | some x,some y=>some (x :: y)
 | _,_=>none
def lfO (o:Option (Bool×Ob)) (es lo len:Nat):Option Leaf:=match o with
 | some (_,.arr _ es' rows)=>if es'=es∧lo+len≤rows.length then some (.sl ((rows.drop lo).take len)) else none
 | some (_,.deep ss rows)=>if ss.length=es∧lo+len≤rows.length then some (.sl ((rows.drop lo).take len)) else none
 | _=>none
def zAw (p:Option Nat) (o:Option (Bool×Ob)) (H:zlM) (off:Nat):Option LV:=match p with
 | some k=>some (.pb k off)
 | none=>match o with
  | some (_,.box ls)=>cvR (zmP H (ls.drop off))
  | _=>none
def zzd (p:Option Nat) (o:Option (Bool×Ob)) (H:zlM) (es i off:Nat):Option LV:=match p with
 | some k=>some (.pe k es i off)
 | none=>match o with
  | some (_,.arr _ es' rows)=>if es'=es∧i < rows.length then some (.ra true ((rows.getD i []).drop off)) else none
  | some (_,.deep ss rows)=>if ss.length=es∧i < rows.length then some (.ra true ((rows.getD i []).drop off)) else none
  | some (_,.foc ss _ p ks)=>if ss.length=es∧i=p then cvR (zmP H (ks.drop off)) else none
  | _=>none
def hdO (k:Nat):Option Ob→Option HL→Option HL
 | some o,some l=>some ((k,some (false,o)) :: l)
 | _,_=>none
def hdI (ids:List Nat) (H:zlM) (k:Nat) (o:Option (Bool×Ob)) (r:Option HL):Option HL:=match o with
 | some (_,o)=>hdO k (znl ids H o) r
 | none=>none
namespace S
variable (ids:List Nat) (H:zlM)
@[go_sem] theorem zG0 {α β:Type} (f:α→β):Option.map f none=none:=rfl
@[go_sem] theorem zG1 {α β:Type} (f:α→β) (a:α):Option.map f (some a)=some (f a):=rfl
@[go_sem] theorem zFC:zmP H []=some []:=rfl
@[go_sem] theorem zEm (lv:LV) (r:List LV):zmP H (lv :: r)=cvL (zoo H lv) (zmP H r):=by
 simp only [zmP]
 unfold cvL
 cases zoo H lv<;>cases zmP H r<;>rfl
@[go_sem] theorem zG2 (x:Leaf) (y:List Leaf):cvL (some x) (some y)=some (x :: y):=rfl
@[go_sem] theorem zG3 (y:List Leaf):cvR (some y)=some (.ra true y):=rfl
@[go_sem] theorem zGF (t:Bool) (l:Leaf):zoo H (.lf t l)=some l:=rfl
@[go_sem] theorem zGG:zoo H .nl=some (.sl []):=rfl
@[go_sem] theorem zGH (id es lo len mc:Nat) (ex:Bool):zoo H (.os id es lo len mc ex)=lfO (H id) es lo len:=by
 simp only [zoo]
 unfold lfO
 rcases H id with _ | ⟨fr,o⟩
 ·rfl
 ·cases o<;>rfl
@[go_sem] theorem zGJ (fr t:Bool) (es':Nat) (rows:List (List Leaf)) (es lo len:Nat):lfO (some (fr,.arr t es' rows)) es lo len=if es'=es∧lo+len≤rows.length then some (.sl ((rows.drop lo).take len)) else none:=rfl
@[go_sem] theorem zGK (fr:Bool) (ss:List DSh) (rows:List (List Leaf)) (es lo len:Nat):lfO (some (fr,.deep ss rows)) es lo len=if ss.length=es∧lo+len≤rows.length then some (.sl ((rows.drop lo).take len)) else none:=rfl
@[go_sem] theorem zDj (id off:Nat):znj ids H (.pb id off)=zAw (pos ids id) (H id) H off:=by
 simp only [znj]
 unfold zAw
 cases pos ids id with
 | some k=>rfl
 | none =>
  rcases H id with _ | ⟨fr,o⟩
  ·rfl
  ·cases o with
   | box ls=>simp only;cases zmP H (ls.drop off)<;>rfl
   | _=>rfl
@[go_sem] theorem zCa (id off:Nat):conv ids H (.pb id off)=zAw (pos ids id) (H id) H off:=zDj ids H id off
@[go_sem] theorem zFD (k:Nat) (o:Option (Bool×Ob)) (off:Nat):zAw (some k) o H off=some (.pb k off):=rfl
@[go_sem] theorem zFE (fr:Bool) (ls:List LV):zAw none (some (fr,.box ls)) H 0=cvR (zmP H ls):=rfl
@[go_sem] theorem zDk (id es i off:Nat):znj ids H (.pe id es i off)=zzd (pos ids id) (H id) H es i off:=by
 simp only [znj]
 unfold zzd
 cases pos ids id with
 | some k=>rfl
 | none =>
  rcases H id with _ | ⟨fr,o⟩
  ·rfl
  ·cases o with
   | foc ss rows p ks=>simp only;split<;>(try rfl)
   | _=>rfl
@[go_sem] theorem zGL (id es i off:Nat):conv ids H (.pe id es i off)=zzd (pos ids id) (H id) H es i off:=zDk ids H id es i off
@[go_sem] theorem zFF (k:Nat) (o:Option (Bool×Ob)) (es i off:Nat):zzd (some k) o H es i off=some (.pe k es i off):=rfl
@[go_sem] theorem zFG {α:Type} [Inhabited α] (fr:Bool) (ss:List DSh) (f:α→List Leaf) (l:List α) (es i:Nat) (h:i < l.length):zzd none (some (fr,.deep ss (l.map f))) H es i 0=if ss.length=es then some (.ra true (f (nth l i))) else none:=by
 have e:(l.map f).getD i []=f (nth l i):=zz8 h
 show (if ss.length=es∧i < (l.map f).length then some (LV.ra true (((l.map f).getD i []).drop 0)) else none)=_
 rw [e,List.drop_zero]
 by_cases hs:ss.length=es
 ·rw [if_pos ⟨hs,by simpa using h⟩,if_pos hs]
 ·rw [if_neg λ h=>hs h.1,if_neg hs]
@[go_sem] theorem zFH (fr:Bool) (ss:List DSh) (rows:List (List Leaf)) (p:Nat) (ks:List LV) (es i:Nat):zzd none (some (fr,.foc ss rows p ks)) H es i 0=if ss.length=es∧i=p then cvR (zmP H ks) else none:=rfl
@[go_sem] theorem zFJ (k:Nat):znz ids H k []=some []:=rfl
@[go_sem] theorem zEn (k id:Nat) (r:List Nat):znz ids H k (id :: r)=hdI ids H k (H id) (znz ids H (k+1) r):=by
 simp only [znz]
 unfold hdI hdO
 rcases H id with _ | ⟨fr,o⟩
 ·rfl
 ·cases znz ids H (k+1) r with
  | none=>simp only;cases znl ids H o<;>rfl
  | some l=>simp only;cases znl ids H o<;>rfl
@[go_sem] theorem zG4 (k:Nat) (fr:Bool) (o:Ob) (r:Option HL):hdI ids H k (some (fr,o)) r=hdO k (znl ids H o) r:=rfl
@[go_sem] theorem zG5 (k:Nat) (o:Ob) (l:HL):hdO k (some o) (some l)=some ((k,some (false,o)) :: l):=rfl
@[go_sem] theorem zFK (ls:List LV):znl ids H (.box ls)=(zm7 ids H ls).map .box:=rfl
@[go_sem] theorem zFL (t:Bool) (es:Nat) (rows:List (List Leaf)):znl ids H (.arr t es rows)=some (.arr true es rows):=rfl
@[go_sem] theorem zEo (ss:List DSh) (rows:List (List Leaf)):znl ids H (.deep ss rows)=some (.deep ss rows):=rfl
@[go_sem] theorem zFM (ss:List DSh) (rows:List (List Leaf)) (p:Nat) (ks:List LV):znl ids H (.foc ss rows p ks)=(zm7 ids H ks).map (.foc ss rows p):=rfl
end S
section
variable {E:Env} {s:St} {st:List Fm}
theorem zBF {g:FuncId} {caps args args1 args':List LV} {ids:List Nat} {H0 H1:HL} {nxr:Nat} {res:LV} {wd dst:Option Nat} {md:Md} {all:Array Oper} {r:List Oper} (h:Fn E.P g args' H0 ids.length res H1 nxr)
  (h1:zmK ids (hp s.H) (args++caps)=some args1) (hf:FitAll args1 args') (h3:znz ids (hp s.H) 0 ids=some H0) (h4:ids.Nodup) (h5:(zl8 ids (hp s.H) (args++caps)).all (λ i=>!ids.contains i)=true)
  (h6:zvy res=true∧∀ p∈H1,∀ o,p.2=some o→zm0 o.2=true) (h7:(List.range ids.length).all (λ k=>(zli H1 k).isSome)=true)
  (hK:R E (md.nx wd s.H (zmM ids (hp s.H) s.nx H1 s.H)) all r (s.put dst (zqv ids s.nx res) (zmM ids (hp s.H) s.nx H1 s.H) (s.nx+(nxr - ids.length))) st):Cl E (.fn g caps) args wd dst md all r s st:=by
 have h5':∀ i∈zl8 ids (hp s.H) (args++caps),i∉ids:=λ i hi hm=>by
  have:=List.all_eq_true.1 h5 i hi
  rw [List.contains_iff_mem.2 hm] at this
  cases this
 unfold Cl
 exact ⟨h.1,ids,args',args1,H0,res,H1,nxr,h1,hf,h3,h4,h5',h.2,.inr h6,λ k hk=>List.all_eq_true.1 h7 k (List.mem_range.2 hk),hK⟩
theorem zDl {g:FuncId} {caps args args':List LV} (ids:List Nat) {H0 H1:HL} {nxr:Nat} {res:LV} {wd dst:Option Nat} {md:Md} {all:Array Oper} {l:List Oper} (h:Fn E.P g args' H0 ids.length res H1 nxr)
  (hK:R E (md.nx wd s.H (zmM ids (hp s.H) s.nx H1 s.H)) all l (s.put dst (zqv ids s.nx res) (zmM ids (hp s.H) s.nx H1 s.H) (s.nx+(nxr - ids.length))) st)
  (h1:zmK ids (hp s.H) (args++caps)=some args':=by first | rfl | (simp (disch:=first | assumption | (simp only [qL];assumption)) only [go_sem,qA,qB,qC,qD,↓reduceIte,qE,reduceCtorEq,qF,qH,qI,qJ,qK,qG];first | done | rfl) | (simp only [qM,qP,qQ,qO,qL,qN,qa,qA];rfl) | (simp (disch:=first | assumption | (simp only [qL];assumption)) only [go_sem,qA,qB,qC,qD,↓reduceIte,qE,reduceCtorEq,qF,qH,qI,qJ,qK,qG];simp only [qM,qP,qQ,qO,qL,qN,qa,qA];rfl))
  (h3:znz ids (hp s.H) 0 ids=some H0:=by first | rfl | (simp (disch:=first | assumption | (simp only [qL];assumption)) only [go_sem,qA,qB,qC,qD,↓reduceIte,qE,reduceCtorEq,qF,qH,qI,qJ,qK,qG];first | done | rfl) | (simp only [qM,qP,qQ,qO,qL,qN,qa,qA];rfl) | (simp (disch:=first | assumption | (simp only [qL];assumption)) only [go_sem,qA,qB,qC,qD,↓reduceIte,qE,reduceCtorEq,qF,qH,qI,qJ,qK,qG];simp only [qM,qP,qQ,qO,qL,qN,qa,qA];rfl)) (h4:ids.Nodup:=by decide) (h5:(zl8 ids (hp s.H) (args++caps)).all (λ i=>!ids.contains i)=true:=by rfl) (h6:zvy res=true∧∀ p∈H1,∀ o,p.2=some o→zm0 o.2=true:=by exact ⟨rfl,by simp [zm0,zoC]⟩) (h7:(List.range ids.length).all (λ k=>(zli H1 k).isSome)=true:=by rfl):Cl E (.fn g caps) args wd dst md all l s st :=
 zBF h h1 (FitAll.refl _) h3 h4 h5 h6 h7 hK
end
end Go.TL

import Derived.Test.YteonagfnhdlfcaaGreatDoorTlRun
set_option linter.unusedSimpArgs false
set_option linter.unusedVariables false
noncomputable section
namespace Go.TL
open Go
theorem Fit1.refl (a:LV):Fit1 a a:=.same a
theorem FitL.refl:∀ l:List LV,FitL l l
 | []=>trivial
 | a :: r=>⟨.same a,FitL.refl r⟩
theorem Fit.refl (a:LV):Fit a a:=by
 cases a<;>first | exact FitL.refl _ | exact ⟨rfl,FitL.refl _⟩ | exact Fit1.same _
theorem FitAll.refl:∀ l:List LV,FitAll l l
 | []=>trivial
 | a :: r=>⟨Fit.refl a,FitAll.refl r⟩
namespace S
variable (ids:List Nat) (nx:Nat)
theorem bk_lf (t:Bool) (l:Leaf):zpz ids nx (.lf t l)=.lf t l:=rfl
theorem bk_nl:zpz ids nx .nl=.nl:=rfl
theorem bk_os (k es lo len mc:Nat) (ex:Bool):zpz ids nx (.os k es lo len mc ex)=(match ids[k]? with
  | some id=>.os id es lo len mc ex
  | none=>.os (nx+(k - ids.length)) es lo len mc ex):=rfl
theorem bk_pb (k off:Nat):zpz ids nx (.pb k off)=(match ids[k]? with
  | some id=>.pb id off
  | none=>.pb (nx+(k - ids.length)) off):=rfl
theorem bk_ag (ls:List LV):zpz ids nx (.ag ls)=.ag (ls.map (zm9 ids nx)):=rfl
theorem bk_tu (ls:List LV):zpz ids nx (.tu ls)=.tu (ls.map (zpR ids nx)):=rfl
theorem b2_lf (t:Bool) (l:Leaf):zpR ids nx (.lf t l)=.lf t l:=rfl
theorem b2_nl:zpR ids nx .nl=.nl:=rfl
theorem b2_os (k es lo len mc:Nat) (ex:Bool):zpR ids nx (.os k es lo len mc ex)=(match ids[k]? with
  | some id=>.os id es lo len mc ex
  | none=>.os (nx+(k - ids.length)) es lo len mc ex):=rfl
theorem b2_pb (k off:Nat):zpR ids nx (.pb k off)=(match ids[k]? with
  | some id=>.pb id off
  | none=>.pb (nx+(k - ids.length)) off):=rfl
theorem b2_ag (ls:List LV):zpR ids nx (.ag ls)=.ag (ls.map (zm9 ids nx)):=rfl
theorem b1_lf (t:Bool) (l:Leaf):zm9 ids nx (.lf t l)=.lf t l:=rfl
theorem b1_nl:zm9 ids nx .nl=.nl:=rfl
theorem b1_os (k es lo len mc:Nat) (ex:Bool):zm9 ids nx (.os k es lo len mc ex)=(match ids[k]? with
  | some id=>.os id es lo len mc ex
  | none=>.os (nx+(k - ids.length)) es lo len mc ex):=rfl
theorem b1_pb (k off:Nat):zm9 ids nx (.pb k off)=(match ids[k]? with
  | some id=>.pb id off
  | none=>.pb (nx+(k - ids.length)) off):=rfl
theorem bo_box (ls:List LV):zow ids nx (.box ls)=.box (ls.map (zm9 ids nx)):=rfl
theorem bo_arr (t:Bool) (es:Nat) (rows:List (List Leaf)):zow ids nx (.arr t es rows)=.arr t es rows:=rfl
theorem mg_nil (H:zkO) (old:HL):zl4 ids H nx [] old=old:=rfl
theorem mg_cons (H:zkO) (k:Nat) (x:Option (Bool×Ob)) (r old:HL):zl4 ids H nx ((k,x) :: r) old=(num ids nx k,zmX ids H nx k x) :: zl4 ids H nx r old:=rfl
theorem mo (H:zkO) (k:Nat) (x:Option (Bool×Ob)):zmX ids H nx k x=(match ids[k]? with
 | some id=>x.bind λ o=>(H id).map λ q=>(zoL ids H q.1 o.2,zow ids nx o.2)
 | none=>x.map λ o=>(o.1 || znD H ids,zow ids nx o.2)):=rfl
theorem bo_deep (ss:List DSh) (rows:List (List Leaf)):zow ids nx (.deep ss rows)=.deep ss rows:=rfl
theorem fl_box (H:zkO) (q:Bool) (ls:List LV):zoL ids H q (.box ls)=q:=rfl
theorem fl_arr (H:zkO) (q t:Bool) (es:Nat) (rows:List (List Leaf)):zoL ids H q (.arr t es rows)=q:=rfl
theorem fl_deep (H:zkO) (q:Bool) (ss:List DSh) (rows:List (List Leaf)):zoL ids H q (.deep ss rows)=(q && znD H ids):=rfl
theorem af_nil (H:zkO):znD H []=true:=rfl
theorem af_cons (H:zkO) (id:Nat) (r:List Nat):znD H (id :: r)=((match H id with | some (b,_)=>b | none=>true) && znD H r):=rfl
theorem nm (k:Nat):num ids nx k=(match ids[k]? with
 | some id=>id
 | none=>nx+(k - ids.length)):=rfl
theorem rs_1 (x:LV):zqx [x]=x:=rfl
theorem rs_0:zqx []=.tu []:=rfl
theorem rs_2 (x y:LV) (r:List LV):zqx (x :: y :: r)=.tu (x :: y :: r):=rfl
end S
theorem S.ends (tab:Tab) (rs:List ResultVar) (res:LV) (H1:HL) (nxr:Nat) (T:List (Nat×LV)) (H:HL) (nx nt:Nat) (e:Exit):zAu tab rs res H1 nxr e ⟨T,H,nx,nt⟩=((e=.normal∨e=.ret)∧nx≤nxr∧(∃ l,zqw tab ⟨T,H,nx,nt⟩ rs=some l∧zqx l=res)∧zpH H1 H):=rfl
theorem S.kh_nil (H:HL):zpH [] H=True:=rfl
theorem S.kh_cons (k:Nat) (x:Option (Bool×Ob)) (r H:HL):zpH ((k,x) :: r) H=(hp H k=x∧zpH r H):=rfl
end Go.TL
namespace Go.TL
open Go
abbrev Ren:=List (Option Nat)
def wk1 (ρ:Ren) (a b:LV):Prop :=
 match b with
 | .un=>True
 | .lf t' l'=>(match a with
  | .lf t l=>(t=true→t'=true)∧l=l'
  | .nl=>l'=.sl []
  | _=>False)
 | .nl=>a=.nl
 | .os id' es' lo' len' mc' ex'=>(match a with
  | .os id es lo len mc ex=>ρ[id']?=some (some id)∧es'=es∧lo'=lo∧len'=len∧((mc'=mc∧ex'=ex)∨(mc'≤max len mc∧ex'=false))
  | .nl=>id' < ρ.length∧lo'=0∧len'=0∧mc'=0
  | _=>False)
 | .pb id' off'=>(match a with
  | .pb id off=>ρ[id']?=some (some id)∧off'=off
  | _=>False)
 | .pe id' es' i' off'=>(match a with
  | .pe id es i off=>ρ[id']?=some (some id)∧es'=es∧i'=i∧off'=off
  | _=>False)
 | .ra t' ls'=>(match a with
  | .ra t ls=>(t=true→t'=true)∧ls=ls'
  | _=>False)
 | _=>False
def wks (ρ:Ren):List LV→List LV→Prop
 | [],[]=>True
 | a :: r,b :: q=>wk1 ρ a b∧wks ρ r q
 | _,_=>False
def wk (ρ:Ren) (a b:LV):Prop :=
 match b with
 | .ag l'=>(match a with
  | .ag l=>wks ρ l l'
  | _=>False)
 | .fn f' l'=>(match a with
  | .fn f l=>f=f'∧wks ρ l l'
  | _=>False)
 | b=>wk1 ρ a b
def zsO (ρ:Ren) (o o':Ob):Prop :=
 match o,o' with
 | .box ls,.box ls'=>wks ρ ls ls'
 | .arr t es rows,.arr t' es' rows'=>((t=true→t'=true)∨zoE rows)∧es'=es∧rows'=rows
 | .deep ss rows,.deep ss' rows'=>ss'=ss∧rows'=rows
 | _,_=>False
def wkH (ρ:Ren) (H:zkO) (i:Nat) (o2:Bool×Ob):Prop :=
 match ρ[i]? with
 | some (some id)=>∃ fr o,H id=some (fr,o)∧(o2.1=fr∨o2.1=false)∧zsO ρ o o2.2
 | some none=>(∃ t es,o2.2=.arr t es [])∨∃ ss,o2.2=.deep ss []
 | none=>False
def zm7 (c:Ctx) (ρ:Ren):Ctx:=⟨c.F,c.G,λ i=>match ρ[i]? with | some (some id)=>c.loc id | _=>(Loc.flat 0 0 0),ρ.length⟩
theorem zmu {c:Ctx} {ρ:Ren} {i id:Nat} (h:ρ[i]?=some (some id)):(zm7 c ρ).loc i=c.loc id:=by simp only [zm7,h]
theorem zqy {ρ:Ren} {i:Nat} {x:Option Nat} (h:ρ[i]?=some x):i < ρ.length:=(List.getElem?_eq_some_iff.1 h).1
theorem zwM {c:Ctx} {t t':Bool} (h:t=true→t'=true) (b k:Nat) (x:c.fs t b k):c.fs t' b k:=x.imp id λ ⟨h1,h2⟩=>⟨h h1,h2⟩
theorem zyT {w:World} {c:Ctx} {ρ:Ren} {a b:LV} {v:Value} (h:wk1 ρ a b) (hc:Cv w c a v):Cv w (zm7 c ρ) b v:=by
 unfold wk1 at h
 split at h
 ·exact .un _
 ·split at h
  ·obtain ⟨h1,rfl⟩:=h
   cases hc with
   | lf hr=>exact .lf (hr.sub (zwM (c:=c) h1))
  ·subst h
   cases hc with
   | nl=>exact .lf .nil
  ·exact h.elim
 ·subst h;cases hc with | nl=>exact .nl _
 ·split at h
  ·obtain ⟨h1,rfl,rfl,rfl,h2⟩:=h
   cases hc with
   | os hid hl hm hx ha hn =>
    refine .os (zqy h1) hl ?_ ?_ (by rw [zmu h1];exact ha) (by rw [zmu h1];exact hn)
    ·rcases h2 with ⟨rfl,_⟩ | ⟨h,_⟩
     ·exact hm
     ·omega
    ·rcases h2 with ⟨rfl,rfl⟩ | ⟨_,rfl⟩
     ·exact hx
     ·intro h;cases h
  ·obtain ⟨h1,rfl,rfl,rfl⟩:=h
   cases hc with
   | nl=>exact .os h1 (Nat.le_refl _) (by omega) (λ _=>rfl) (.inl rfl) (by simp)
  ·exact h.elim
 ·split at h
  ·obtain ⟨h1,rfl⟩:=h
   cases hc with
   | pb hid=>rw [← zmu h1];exact .pb (zqy h1)
  ·exact h.elim
 ·split at h
  ·obtain ⟨h1,rfl,rfl,rfl⟩:=h
   cases hc with
   | pe hid=>rw [← zmu h1];exact .pe (zqy h1)
  ·exact h.elim
 ·split at h
  ·obtain ⟨h1,rfl⟩:=h
   cases hc with
   | ra cs hS hr=>exact .ra cs (λ j hj=>⟨zwM (c:=c) h1 _ _ (hS j hj).1,(hS j hj).2⟩) λ j hj=>(hr j hj).sub (zwM (c:=c) h1)
  ·exact h.elim
 ·exact h.elim
theorem zrr {w:World} {c:Ctx} {ρ:Ren}:∀ {l l':List LV},wks ρ l l'→l'.length=l.length∧∀ j (hj:j < l.length) (hj':j < l'.length) v,Cv w c (l[j]) v→Cv w (zm7 c ρ) (l'[j]) v
 | [],[],_=>⟨rfl,λ j hj=>by simp at hj⟩
 | a :: r,b :: q,h=>by
  obtain ⟨h1,h2⟩:=zrr h.2
  refine ⟨by simp [h1],λ j hj hj' v hv=>?_⟩
  cases j with
  | zero=>exact zyT h.1 hv
  | succ j=>exact h2 j (by simpa using hj) (by simpa using hj') v hv
 | [],_ :: _,h=>h.elim
 | _ :: _,[],h=>h.elim
theorem zCa {w:World} {c:Ctx} {ρ:Ren} {a b:LV} {v:Value} (h:wk ρ a b) (hc:Cv w c a v):Cv w (zm7 c ρ) b v:=by
 unfold wk at h
 split at h
 ·split at h
  ·obtain ⟨h1,h2⟩:=zrr (w:=w) (c:=c) h
   cases hc with
   | ag cs hn hv hh=>exact .ag cs (by omega) (λ j hj=>hv j (by omega)) λ j hj=>h2 j (by omega) hj _ (hh j (by omega))
  ·exact h.elim
 ·split at h
  ·obtain ⟨rfl,h⟩:=h
   obtain ⟨h1,h2⟩:=zrr (w:=w) (c:=c) h
   cases hc with
   | fn cs hn hv hh=>exact .fn cs (by omega) (λ j hj=>hv j (by omega)) λ j hj=>h2 j (by omega) hj _ (hh j (by omega))
  ·exact h.elim
 ·exact zyT h hc
theorem zAx {w:World} {c:Ctx} {ρ:Ren} {L:Loc} {o o':Ob} (h:zsO ρ o o') (hh:Holds w c L o):Holds w (zm7 c ρ) L o':=by
 unfold zsO at h
 split at h
 ·obtain ⟨h1,h2⟩:=zrr (w:=w) (c:=c) h
  obtain ⟨g1,g2,g3⟩:=hh
  exact ⟨by omega,g2,λ j hj v hv=>h2 j (by omega) hj v (g3 j (by omega) v hv)⟩
 ·obtain ⟨h1,rfl,rfl⟩:=h
  obtain ⟨g1,g0,g2,g3⟩:=hh
  rcases h1 with h1 | h1
  ·exact ⟨g1,g0,g2,λ i j hi hj v hv=>(g3 i j hi hj v hv).sub (zwM (c:=c) h1)⟩
  ·exact ⟨g1,g0,g2,λ i j hi hj v hv=>zyz (g3 i j hi hj v hv) (h1 _ (List.getElem_mem hi) _ (List.getElem_mem hj))⟩
 ·obtain ⟨rfl,rfl⟩:=h
  exact hh
 ·exact h.elim
def tgt (ρ:Ren):HL→List Nat
 | []=>[]
 | (_,none) :: r=>tgt ρ r
 | (i,some _) :: r=>match ρ[i]? with
  | some (some id)=>id :: tgt ρ r
  | _=>tgt ρ r
def inB (x:Nat):List Nat→Bool
 | []=>false
 | y :: r=>bif Nat.beq x y then true else inB x r
def zsP:List Nat→Bool
 | []=>false
 | x :: r=>bif inB x r then true else zsP r
theorem zBi {x:Nat}:∀ {l:List Nat},inB x l=false→x∉l
 | [],_,h=>by simp at h
 | y :: r,hb,h=>by
  unfold inB at hb
  cases e:Nat.beq x y with
  | true=>rw [e] at hb;cases hb
  | false =>
   rw [e] at hb
   rcases List.mem_cons.1 h with h | h
   ·subst h;rw [Nat.beq_refl] at e;cases e
   ·exact zBi hb h
theorem zp3 {ρ:Ren} {i:Nat} {o:Bool×Ob} {r:HL}:tgt ρ ((i,some o) :: r)=(match ρ[i]? with
  | some (some id)=>id :: tgt ρ r
  | _=>tgt ρ r):=rfl
theorem ztW {ρ:Ren} {id:Nat}:∀ {H2:HL} {j:Nat} {o:Bool×Ob},zkm H2 j=some (some o)→ρ[j]?=some (some id)→id∈tgt ρ H2
 | [],j,o,h,_=>by cases h
 | (k,x) :: r,j,o,h,hr=>by
  simp only [zkm] at h
  split at h
  ·rename_i e;subst e;cases h
   rw [zp3,hr];exact List.mem_cons_self
  ·have:=ztW h hr
   cases x with
   | none=>exact this
   | some y =>
    rw [zp3]
    split
    ·exact List.mem_cons_of_mem _ this
    ·exact this
theorem zyU {ρ:Ren} {k:Nat} {x:Option (Bool×Ob)} {r:HL} (h:zsP (tgt ρ ((k,x) :: r))=false):zsP (tgt ρ r)=false:=by
 cases x with
 | none=>exact h
 | some y =>
  rw [zp3] at h
  split at h
  ·unfold zsP at h
   rename_i id _
   cases e:inB id (tgt ρ r) with
   | true=>rw [e] at h;cases h
   | false=>rw [e] at h;exact h
  ·exact h
theorem zuU {ρ:Ren} {k id:Nat} {y:Bool×Ob} {r:HL} (h:zsP (tgt ρ ((k,some y) :: r))=false) (hr:ρ[k]?=some (some id)):id∉tgt ρ r:=by
 rw [zp3,hr] at h
 simp only at h
 unfold zsP at h
 cases e:inB id (tgt ρ r) with
 | true=>rw [e] at h;cases h
 | false=>exact zBi e
theorem zyV {id:Nat} {ρ:Ren}:∀ {H2:HL} {i j:Nat} {oi oj:Bool×Ob},zsP (tgt ρ H2)=false→zkm H2 i=some (some oi)→zkm H2 j=some (some oj)→ρ[i]?=some (some id)→ρ[j]?=some (some id)→i=j
 | [],i,j,_,_,_,h,_,_,_=>by cases h
 | (k,x) :: r,i,j,oi,oj,hd,hi,hj,h1,h2=>by
  simp only [zkm] at hi hj
  by_cases ei:i=k
  ·by_cases ej:j=k
   ·rw [ei,ej]
   ·rw [if_pos ei] at hi;rw [if_neg ej] at hj;cases hi;subst ei
    exact absurd (ztW hj h2) (zuU hd h1)
  ·by_cases ej:j=k
   ·rw [if_neg ei] at hi;rw [if_pos ej] at hj;cases hj;subst ej
    exact absurd (ztW hi h1) (zuU hd h2)
   ·rw [if_neg ei] at hi;rw [if_neg ej] at hj
    exact zyV (zyU hd) hi hj h1 h2
def wkT (ρ:Ren) (T:List (Nat×LV)):List (Nat×LV)→Prop
 | []=>True
 | (t,lv) :: r=>wk ρ (tv T t) lv∧wkT ρ T r
def zri (ρ:Ren) (H:zkO):HL→Prop
 | []=>True
 | (i,some o) :: r=>wkH ρ H i o∧zri ρ H r
 | (_,none) :: r=>zri ρ H r
theorem zwN {ρ:Ren} {T:List (Nat×LV)}:∀ {T2:List (Nat×LV)} {t:Nat} {lv:LV},wkT ρ T T2→zkm T2 t=some lv→wk ρ (tv T t) lv
 | [],t,lv,_,h=>by cases h
 | (k,x) :: r,t,lv,hw,h=>by
  simp only [zkm] at h
  split at h
  ·rename_i e;subst e;cases h;exact hw.1
  ·exact zwN hw.2 h
theorem zuV {ρ:Ren} {H:zkO}:∀ {H2:HL} {i:Nat} {o:Bool×Ob},zri ρ H H2→zkm H2 i=some (some o)→wkH ρ H i o
 | [],i,o,_,h=>by cases h
 | (k,x) :: r,i,o,hw,h=>by
  simp only [zkm] at h
  split at h
  ·rename_i e;subst e;cases h;exact hw.1
  ·have hw':zri ρ H r:=by
    cases x with
    | none=>exact hw
    | some _=>exact hw.2
   exact zuV hw' h
theorem zlB {m:Nat} {s s2:St} (ρ:Ren) (h1:s2.nx=ρ.length) (h2:s2.nt=s.nt) (h3:ρ.take m=(List.range m).map some) (hinj:zsP (tgt ρ s2.H)=false) (hT:wkT ρ s.T s2.T) (hH:zri ρ (hp s.H) s2.H):Weak m s s2:=by
 intro w0 W0 c0 a w hm ⟨c,hle,hr⟩
 have hfix:∀ i,i < m→ρ[i]?=some (some i):=λ i hi=>by
  have:=congrArg (λ l=>l[i]?) h3
  simpa [List.getElem?_take,hi] using this
 have hmlen:m≤ρ.length:=by
  have:=congrArg List.length h3
  simp at this
  omega
 refine ⟨zm7 c ρ,⟨hle.F,hle.G,by show c0.nx≤ρ.length;omega,λ id hid=>?_⟩,?_,h1.symm,λ t=>?_,by rw [hr.sz,h2],hr.df⟩
 ·rw [zmu (hfix id (by omega))]
  exact hle.loc id hid
 ·have hlk:∀ i o2,hp s2.H i=some o2→zkm s2.H i=some (some o2):=λ i o2 h=>by
   unfold hp at h
   cases hl:zkm s2.H i with
   | none=>rw [hl] at h;cases h
   | some x=>rw [hl] at h;simp only [Option.getD_some] at h;rw [h]
  have hob:∀ i o2,hp s2.H i=some o2→wkH ρ (hp s.H) i o2:=λ i o2 h=>by
   unfold hp at h
   cases hl:zkm s2.H i with
   | none=>rw [hl] at h;cases h
   | some x =>
    rw [hl] at h
    simp only [Option.getD_some] at h
    subst h
    exact zuV hH hl
  have hno:∀ i,ρ[i]?=some none→∀ b k,¬ inR ((zm7 c ρ).loc i) b k:=λ i hi b k hb=>by
   simp only [zm7,hi] at hb
   have:=(zlE hb).2
   omega
  have hcase:∀ i o2,hp s2.H i=some o2→(∃ id fr o,ρ[i]?=some (some id)∧hp s.H id=some (fr,o)∧(o2.1=fr∨o2.1=false)∧zsO ρ o o2.2)∨(ρ[i]?=some none∧((∃ t es,o2.2=.arr t es [])∨∃ ss,o2.2=.deep ss [])):=λ i o2 h=>by
   have:=hob i o2 h
   unfold wkH at this
   split at this
   ·rename_i id hi;obtain ⟨fr,o,g⟩:=this;exact .inl ⟨id,fr,o,hi,g⟩
   ·rename_i hi;exact .inr ⟨hi,this⟩
   ·exact this.elim
  refine ⟨hr.sit.keep,λ i o2 h=>?_,λ i j oi oj hi hj hij b k k2 hb hb'=>?_,λ i o2 h b k hb=>?_,hr.sit.old,hr.sit.new,λ b k v he=>⟨(hr.sit.res b k v he).1,(hr.sit.res b k v he).2.1,(hr.sit.res b k v he).2.2.1,(hr.sit.res b k v he).2.2.2.1,λ i o2 h k2 hb=>?_⟩,λ i o2 h b k hb=>?_,λ i o2 h x hx=>?_⟩
  ·rcases hcase i o2 h with ⟨id,fr,o,g1,g2,g3,g4⟩ | ⟨g1,⟨t,es,g2⟩ | ⟨ss,g2⟩⟩
   ·refine ⟨zqy g1,?_⟩
    rw [zmu g1]
    exact zAx g4 (hr.sit.own id _ g2).2
   ·refine ⟨zqy g1,?_⟩
    rw [g2]
    exact ⟨by simp,λ r hr=>by simp at hr,λ j hj=>by simp [zm7,g1] at hj,λ i j hi=>by simp at hi⟩
   ·refine ⟨zqy g1,?_⟩
    rw [g2]
    exact ⟨by simp,λ r hr=>by simp at hr,λ j hj=>by simp [zm7,g1] at hj,λ _ _ _=>False,λ _ _ _ h=>h.elim,λ _ _ _ _ _ h=>h.elim,λ i j hi=>by simp at hi⟩
  ·rcases hcase i oi hi with ⟨id,fr,o,g1,g2,_⟩ | ⟨g1,_⟩
   ·rcases hcase j oj hj with ⟨id',fr',o',k1,q2,_⟩ | ⟨k1,_⟩
    ·rw [zmu g1] at hb
     rw [zmu k1] at hb'
     refine hr.sit.dis id id' _ _ g2 q2 (λ e=>?_) b k k2 hb hb'
     subst e
     exact hij (zyV hinj (hlk i oi hi) (hlk j oj hj) g1 k1)
    ·exact hno j k1 b k2 hb'
   ·exact hno i g1 b k hb
  ·rcases hcase i o2 h with ⟨id,fr,o,g1,g2,g3,_⟩ | ⟨g1,_⟩
   ·rw [zmu g1] at hb
    obtain ⟨h1,h2,h3⟩:=hr.sit.sep id _ g2 b k hb
    refine ⟨h1,h2,?_⟩
    rcases h3 with ⟨h3,h4⟩ | h3
    ·simp only at h3
     rcases g3 with g3 | g3
     ·exact .inl ⟨by rw [g3,h3],h4⟩
     ·exact .inl ⟨g3,h4⟩
    ·exact .inr h3
   ·exact absurd hb (hno i g1 b k)
  ·rcases hcase i o2 h with ⟨id,fr,o,g1,g2,g3,_⟩ | ⟨g1,_⟩
   ·rw [zmu g1] at hb
    exact (hr.sit.res b k v he).2.2.2.2 id _ g2 k2 hb
   ·exact hno i g1 b k2 hb
  ·rcases hcase i o2 h with ⟨id,fr,o,g1,g2,g3,_⟩ | ⟨g1,_⟩
   ·rw [zmu g1] at hb
    exact hr.sit.pl id _ g2 b k hb
   ·exact absurd hb (hno i g1 b k)
  ·rcases hcase i o2 h with ⟨id,fr,o,g1,g2,g3,g4⟩ | ⟨g1,_⟩
   ·rw [zmu g1] at hx
    obtain ⟨q1,q2⟩:=hr.sit.mo id _ g2 x hx
    refine ⟨q1,?_⟩
    simp only at q2
    unfold zsO at g4
    split at g4
    ·cases q2
    ·cases q2
    ·rename_i e;rw [e];rfl
    ·exact g4.elim
   ·simp only [zm7,g1] at hx
 ·unfold tv
  cases hl:zkm s2.T t with
  | none=>exact .un _
  | some lv=>exact zCa (zwN hT hl) (hr.tmp t)
end Go.TL

import Derived.Test.YteonagfnhdlfcaaGreatDoorTlCode
import Derived.Orders
open List renaming mem_cons_of_mem → qa, mem_cons_self → qb
set_option linter.unusedSimpArgs false
set_option linter.unusedVariables false
noncomputable section
namespace Go.TL
open Go
def zkm:Op→Nat
 | .alloc _ | .box _ _ | .store _ _ _ | .makeSlice _ _ _ | .buildSlice _ _ _=>2
 | .load _ _ | .convert _ _ _=>1
 | .call c=>match c.callee with
  | .builtin .len | .builtin .min | .builtin .max=>0
  | .builtin .append=>2
  | .value _=>2
  | _=>3
 | .binOp _ _ _ y _=>match y with
  | .const (.slice _ _ _)=>3
  | _=>0
 | .move _ | .assign _ | .pick _ _ _ | .unOp _ _ _ | .extract _ _ | .fieldAddr _ _ _ | .nilCheck _ | .indexAddr _ _ _ | .index _ _ _ | .field _ _ _ | .makeFunc _ _ _ | .slice _ _ _ _ _ | .build _ _=>0
 | _=>3
def wid (T:List (Nat×LV)):Op→Option Nat
 | .load _ x=>match ev T x with
  | .pb id _=>some id
  | .pe id _ _ _=>some id
  | _=>none
 | .convert _ _ x=>match ev T x with
  | .os id _ _ _ _ _=>some id
  | _=>none
 | _=>none
section
variable {P:Program} {tab:Tab}
theorem zyB {T T':List (Nat×LV)} {l:List Operand} (h:∀ x∈l,ev T' x=ev T x):l.map (ev T')=l.map (ev T):=List.map_congr_left h
theorem zoo {T T':List (Nat×LV)} {ps:List (Nat×Nat)}:∀ (l:List (Nat×Operand)) (cells:List LV),(∀ p∈l,ev T' p.2=ev T p.2)→zlh T' ps cells l=zlh T ps cells l
 | [],cells,_=>rfl
 | (i,x) :: r,cells,h=>by
  have ih:∀ c,zlh T' ps c r=zlh T ps c r:=λ c=>zoo r c λ p hp=>h p (qa _ hp)
  have hx:ev T' x=ev T x:=h (i,x) qb
  simp only [zlh,hx,ih]
theorem zop {T T':List (Nat×LV)} {es:Nat}:∀ (l:List (Nat×Operand)),(∀ p∈l,ev T' p.2=ev T p.2)→zk7 T' es l=zk7 T es l
 | [],_=>rfl
 | (i,x) :: r,h=>by
  have hx:ev T' x=ev T x:=h (i,x) qb
  simp only [zk7,hx,zop r λ p hp=>h p (qa _ hp)]
theorem zp0 {T T':List (Nat×LV)} {o:Option Operand} (h:∀ x,o=some x→ev T' x=ev T x):bnd T' o=bnd T o:=by
 cases o with
 | none=>rfl
 | some x=>simp only [bnd,h x rfl]
theorem zrv {T T':List (Nat×LV)} {b:Builtin} {l:List Operand} {ts:List Nat} (h:∀ x∈l,ev T' x=ev T x):zlY tab T' b l ts=zlY tab T b l ts:=by
 match l with
 | []=>unfold zlY;cases b<;>rfl
 | [x]=>have h1:=h x (by simp);unfold zlY;cases b<;>first | rfl | (cases ts with | nil=>rfl | cons t r=>cases r with | nil=>simp only [h1] | cons _ _=>rfl)
 | [x,y]=>have h1:=h x (by simp);have h2:=h y (by simp);unfold zlY;cases b<;>simp only [h1,h2]
 | _ :: _ :: _ :: _=>unfold zlY;cases b<;>rfl
theorem zqx {T T':List (Nat×LV)} {op:Op} (h:∀ x∈op.operands,ev T' x=ev T x):zmK P tab T' op=zmK P tab T op:=by
 cases op<;>simp only [zmK]<;>(try rfl)
 case move x=>rw [h x (by simp [Op.operands])]
 case assign x=>rw [h x (by simp [Op.operands])]
 case pick c a b=>rw [h c (by simp [Op.operands]),h a (by simp [Op.operands]),h b (by simp [Op.operands])]
 case binOp op t x y t'=>rw [h x (by simp [Op.operands]),h y (by simp [Op.operands])]
 case unOp op t x=>rw [h x (by simp [Op.operands])]
 case extract x j=>rw [h x (by simp [Op.operands])]
 case fieldAddr t x f=>rw [h x (by simp [Op.operands])]
 case nilCheck x=>rw [h x (by simp [Op.operands])]
 case indexAddr t x y=>rw [h x (by simp [Op.operands]),h y (by simp [Op.operands])]
 case index t x y=>rw [h x (by simp [Op.operands]),h y (by simp [Op.operands])]
 case field t x f=>rw [h x (by simp [Op.operands])]
 case convert t u x=>rw [h x (by simp [Op.operands])]
 case makeFunc fn first caps =>
  rw [zyB λ x hx=>h x (by simp [Op.operands] at hx ⊢;exact .inr hx)]
 case slice t x lo hi mx =>
  unfold zvK
  rw [h x (by simp [Op.operands]),zp0 λ y hy=>h y (by subst hy;simp [Op.operands]),zp0 (o:=hi) λ y hy=>h y (by subst hy;simp [Op.operands]),zp0 (o:=mx) λ y hy=>h y (by subst hy;simp [Op.operands])]
 case build t parts =>
  have hp:∀ ps cells,zlh T' ps cells parts.toList=zlh T ps cells parts.toList:=λ ps cells=>zoo _ _ λ p hp=>h p.2 (by simp [Op.operands];exact ⟨p.1,by simpa using hp⟩)
  simp only [hp]
 case call c =>
  split
  ·rename_i b hc
   exact zrv λ x hx=>h x (by simp [Op.operands,Call.operands];right;simpa using hx)
  ·rfl
theorem zsm {H H':zkd} {lv:LV} (h:∀ id es lo len mc ex,lv=.os id es lo len mc ex→H' id=H id):zla H' lv=zla H lv:=by
 cases lv with
 | os id es lo len mc ex=>simp only [zla,h id es lo len mc ex rfl]
 | lf t l=>cases l<;>rfl
 | _=>rfl
theorem zsn {s s':St} {l:List Operand} {ts:List Nat} (h:∀ x∈l,ev s'.T x=ev s.T x) (hH:s'.H=s.H) (hn:s'.nx=s.nx):zmo tab s' l ts=zmo tab s l ts:=by
 match l,ts with
 | [x,y],[t,u] =>
  have h1:=h x (by simp)
  have h2:=h y (by simp)
  simp only [zmo,zlA,h1,h2,hH,hn]
 | [],_=>rfl
 | [x],_=>rfl
 | _ :: _ :: _ :: _,_=>rfl
 | [_,_],[]=>rfl
 | [_,_],[_]=>rfl
 | [_,_],_ :: _ :: _ :: _=>rfl
theorem ztF {s s':St} {l:List Operand} {ts:List Nat} (h:∀ x∈l,ev s'.T x=ev s.T x) (hH:s'.H=s.H) (hn:s'.nx=s.nx):zon tab s' l ts=zon tab s l ts:=by
 match l,ts with
 | [x],[t] =>
  have h1:=h x (by simp)
  simp only [zon,h1,hH,hn]
 | [],_=>rfl
 | _ :: _ :: _,_=>rfl
 | [_],[]=>rfl
 | [_],_ :: _ :: _=>rfl
theorem zoq {T T':List (Nat×LV)} {ss:List DSh} {es:Nat}:∀ l:List (Nat×Operand),(∀ p∈l,ev T' p.2=ev T p.2)→zk8 T' ss es l=zk8 T ss es l
 | [],_=>rfl
 | (i,x) :: r,h=>by
  have h1:=h (i,x) (by simp)
  have h2:=zoq (ss:=ss) (es:=es) r λ p hp=>h p (qa _ hp)
  simp only at h1
  unfold zk8
  rw [h1,h2]
theorem ztG {T T':List (Nat×LV)} {ss:Option (List DSh)} {es:Nat} (l:List (Nat×Operand)) (h:∀ p∈l,ev T' p.2=ev T p.2):zl9 ss T' es l=zl9 ss T es l:=by
 unfold zl9
 cases ss with
 | none=>rfl
 | some ss =>
  cases l with
  | nil=>rfl
  | cons p l=>simp only [zoq (p :: l) h]
theorem zxo {s s':St} {op:Op} (h:∀ x∈op.operands,ev s'.T x=ev s.T x) (hH:s'.H=s.H) (hn:s'.nx=s.nx):opE P tab s' op=opE P tab s op:=by
 have hp:=zqx (P:=P) (tab:=tab) h
 cases op<;>simp only [opE,hp,hH,hn]
 case box t x=>rw [h x (by simp [Op.operands])]
 case load t x=>rw [h x (by simp [Op.operands])]
 case store t x y=>rw [h x (by simp [Op.operands]),h y (by simp [Op.operands])]
 case makeSlice t x y=>rw [h x (by simp [Op.operands]),h y (by simp [Op.operands])]
 case buildSlice t n parts =>
  have hp:∀ es,zk7 s'.T es parts.toList=zk7 s.T es parts.toList:=λ es=>zop _ λ p hp=>h p.2 (by simp [Op.operands];exact ⟨p.1,by simpa using hp⟩)
  have hx:zo2 s'.T parts.toList=zo2 s.T parts.toList:=zuy _ λ p hp=>h p.2 (by simp [Op.operands];exact ⟨p.1,by simpa using hp⟩)
  have hb:∀ ss es,zl9 ss s'.T es parts.toList=zl9 ss s.T es parts.toList:=λ ss es=>ztG _ λ p hp=>h p.2 (by simp [Op.operands];exact ⟨p.1,by simpa using hp⟩)
  simp only [hp,hx,hb]
 case convert t u x=>rw [h x (by simp [Op.operands])]
 case call c =>
  rw [zsn (λ x hx=>h x (by simp [Op.operands,Call.operands];right;simpa using hx)) hH hn,ztF (λ x hx=>h x (by simp [Op.operands,Call.operands];right;simpa using hx)) hH hn]
theorem zvQ {op:Op} (hk:zkm op≤1):zmu op=none:=by
 cases op<;>try rfl
 rename_i c
 simp only [zkm] at hk
 simp only [zmu]
 split at hk<;>simp_all
theorem zuB {s s':St} {op:Op} (hk:zkm op≤1) (h:∀ x∈op.operands,ev s'.T x=ev s.T x) (hw:∀ id,wid s.T op=some id→hp s'.H id=hp s.H id) :
  opE P tab s' op=(opE P tab s op).map λ r=>⟨r.pre,r.v,s'.H,s'.nx⟩:=by
 have hpu:=zqx (P:=P) (tab:=tab) h
 have pur:(zmK P tab s'.T op).map (λ p=>(⟨p.1,p.2,s'.H,s'.nx⟩:Res))=((zmK P tab s.T op).map λ p=>(⟨p.1,p.2,s.H,s.nx⟩:Res)).map λ r=>⟨r.pre,r.v,s'.H,s'.nx⟩:=by
  rw [hpu];cases zmK P tab s.T op<;>rfl
 cases op<;>(try (simp only [zkm] at hk;omega))<;>(try exact pur)
 case load t x =>
  have hx:=h x (by simp [Op.operands])
  simp only [opE,hx]
  cases zjT tab t with
  | none=>rfl
  | some e =>
   simp only
   split
   ·simp only [wid] at hw
    cases hlv:ev s.T x with
    | pb id off =>
     rw [hlv] at hw
     simp only [hw id rfl]
     cases hp s.H id with
     | none=>rfl
     | some q =>
      obtain ⟨fr,o⟩:=q
      cases o with
      | box ls=>simp only;split<;>rfl
      | arr _ _ _=>rfl
      | deep _ _=>rfl
      | foc _ _ _ _=>rfl
    | pe id es i off =>
     rw [hlv] at hw
     simp only [hw id rfl]
     cases hp s.H id with
     | none=>rfl
     | some q =>
      obtain ⟨fr,o⟩:=q
      cases o with
      | box ls=>rfl
      | arr _ _ _=>simp only;split<;>rfl
      | deep _ _=>simp only;split<;>rfl
      | foc _ _ _ _=>simp only;split<;>rfl
    | _=>rfl
   ·rfl
 case convert t u x =>
  have hx:=h x (by simp [Op.operands])
  simp only [opE]
  cases zjT tab t with
  | none=>rfl
  | some e =>
   simp only
   cases e.sh with
   | slice el =>
    have hsr:zla (hp s'.H) (ev s.T x)=zla (hp s.H) (ev s.T x):=zsm λ id es lo len mc ex he=>hw id (by simp [wid,he])
    simp only [hx,hsr]
    cases zjT tab el<;>try rfl
    cases zjT tab u<;>try rfl
    cases zla (hp s.H) (ev s.T x)<;>try rfl
    rename_i ee f q
    obtain ⟨tt,rows⟩:=q
    simp only
    split<;>rfl
   | _=>exact pur
 case call c =>
  simp only [opE]
  split
  ·rename_i hc
   simp [zkm,hc] at hk
  ·rename_i hc
   simp [zkm,hc] at hk
  ·exact pur
theorem zxp {s:St} {op:Op} (hk:zkm op≤1) {r:Res} (h:opE P tab s op=some r):r.H=s.H∧r.nx=s.nx:=by
 have:=zuB (P:=P) (tab:=tab) (s:=s) (s':=s) hk (λ _ _=>rfl) (λ _ _=>rfl)
 rw [h] at this
 simp only [Option.map_some,Option.some.injEq] at this
 rw [this]
 exact ⟨rfl,rfl⟩
def Eqs (lv:LV) (H:HL) (nx:Nat):LV→HL→Nat→Prop:=λ a b c=>a=lv∧b=H∧c=nx
theorem zmv {T:List (Nat×LV)} {op:Op} {q:Bool×LV} (h:znq tab T op=some q):zkm op=3:=by
 unfold znq at h
 split at h
 ·rename_i op t x y t'
  split at h
  rotate_left
  ·cases h
  rename_i h0
  have h:=h0
  unfold zvN at h
  simp only [Bool.and_eq_true] at h
  obtain ⟨⟨⟨h1,h2⟩,h3⟩,h4⟩:=h
  split at h2
  ·rfl
  ·cases h2
 ·cases h
theorem zAg {s:St} {op:Op} {K:LV→HL→Nat→Prop} (hk:zkm op≠3) (h:opW P tab s op K):∃ lv H nx,K lv H nx∧opW P tab s op (Eqs lv H nx):=by
 unfold opW at h
 split at h
 ·rename_i f args hc
  unfold zsK at h
  split at h
  ·rename_i g caps hf
   obtain ⟨h1,ids,args',args2,H0,res,H1,nxr,a1,a2,a3,a4,a5,a6,a7,a8,hK⟩:=h
   refine ⟨_,_,_,hK,?_⟩
   unfold opW
   rw [hc]
   simp only [zsK,hf]
   exact ⟨h1,ids,args',args2,H0,res,H1,nxr,a1,a2,a3,a4,a5,a6,a7,a8,rfl,rfl,rfl⟩
  ·exact h.elim
 ·rename_i hc
  unfold plain at h
  split at h
  ·rename_i r hr
   refine ⟨_,_,_,h.2,?_⟩
   unfold opW
   rw [hc]
   simp only [plain,hr]
   exact ⟨h.1,rfl,rfl,rfl⟩
  ·obtain ⟨_,_,h1,_⟩:=h;exact absurd (zmv h1) hk
theorem zyC {s s':St} {op:Op} {K:LV→HL→Nat→Prop} (hk:zkm op≠3) (h:opW P tab s op K) (ho:∀ x∈op.operands,ev s'.T x=ev s.T x) (hH:s'.H=s.H) (hn:s'.nx=s.nx):opW P tab s' op K:=by
 unfold opW at h ⊢
 cases hc:zmu op with
 | some q =>
  obtain ⟨f,args⟩:=q
  rw [hc] at h
  simp only at h ⊢
  have hop:∃ cl:Call,op=.call cl∧cl.callee=.value f∧cl.args=args:=by
   unfold zmu at hc
   split at hc
   ·rename_i cl
    split at hc
    ·rename_i f' hcl;cases hc;exact ⟨cl,rfl,hcl,rfl⟩
    ·cases hc
   ·cases hc
  obtain ⟨cl,rfl,hcl,rfl⟩:=hop
  rw [ho f (by simp [Op.operands,Call.operands,hcl]),zyB λ x hx=>ho x (by simp [Op.operands,Call.operands];right;simpa using hx)]
  unfold zsK at h ⊢
  split at h
  ·unfold zys at h ⊢
   rw [hH,hn]
   exact h
  ·exact h.elim
 | none =>
  rw [hc] at h
  simp only [plain] at h ⊢
  rw [zxo ho hH hn]
  cases hr:opE P tab s op with
  | none =>
   rw [hr] at h
   obtain ⟨_,_,h1,_⟩:=h;exact absurd (zmv h1) hk
  | some r=>rw [hr] at h;exact h
theorem zuC {s s':St} {op:Op} {lv:LV} {H:HL} {nx:Nat} (hk:zkm op≤1) (h:opW P tab s op (Eqs lv H nx)) (ho:∀ x∈op.operands,ev s'.T x=ev s.T x) (hw:∀ id,wid s.T op=some id→hp s'.H id=hp s.H id) :
  (H=s.H∧nx=s.nx)∧opW P tab s' op (Eqs lv s'.H s'.nx):=by
 unfold opW at h ⊢
 rw [zvQ hk] at h ⊢
 simp only [plain] at h ⊢
 rw [zuB hk ho hw]
 cases hr:opE P tab s op with
 | none =>
  rw [hr] at h
  obtain ⟨_,_,h1,_⟩:=h
  have:=zmv h1
  omega
 | some r =>
  rw [hr] at h
  obtain ⟨h1,h2,h3,h4⟩:=h
  obtain ⟨g1,g2⟩:=zxp hk hr
  exact ⟨⟨h3 ▸ g1,h4 ▸ g2⟩,h1,h2,rfl,rfl⟩
end
end Go.TL

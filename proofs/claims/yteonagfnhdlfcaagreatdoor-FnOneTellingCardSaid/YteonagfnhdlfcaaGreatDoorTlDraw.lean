import Derived.Test.YteonagfnhdlfcaaGreatDoorTlCode
import Derived.Orders
open List renaming mem_cons_of_mem → qa, mem_cons_self → qb
set_option linter.unusedSimpArgs false
set_option linter.unusedVariables false
noncomputable section
namespace Go.TL
open Go
def zk0:Op→Nat
 | .alloc _ | .box _ _ | .store _ _ _ | .makeSlice _ _ _ | .buildSlice _ _ _=>2
 | .load _ _ | .convert _ _ _=>1
 | .call c=>match c.callee with
  | .builtin .len | .builtin .min | .builtin .max=>0
  | .builtin .append=>2
  | .value _=>2
  | _=>3
 | .binOp _ _ _ y _=>match y with
  | .const (.slice _ _ _)=>3
  | _=>0
 | .move _ | .assign _ | .pick _ _ _ | .unOp _ _ _ | .extract _ _ | .fieldAddr _ _ _ | .nilCheck _ | .indexAddr _ _ _ | .index _ _ _ | .field _ _ _ | .makeFunc _ _ _ | .slice _ _ _ _ _ | .build _ _=>0
 | _=>3
def wid (T:List (Nat×LV)):Op→Option Nat
 | .load _ x=>match ev T x with
  | .pb id _=>some id
  | .pe id _ _ _=>some id
  | _=>none
 | .convert _ _ x=>match ev T x with
  | .os id _ _ _ _ _=>some id
  | _=>none
 | _=>none
section
variable {P:Program} {tab:Tab}
theorem zyG {T T':List (Nat×LV)} {l:List Operand} (h:∀ x∈l,ev T' x=ev T x):l.map (ev T')=l.map (ev T):=List.map_congr_left h
theorem zoV {T T':List (Nat×LV)} {ps:List (Nat×Nat)}:∀ (l:List (Nat×Operand)) (cells:List LV),(∀ p∈l,ev T' p.2=ev T p.2)→zlX T' ps cells l=zlX T ps cells l
 | [],cells,_=>rfl
 | (i,x) :: r,cells,h=>by
  have ih:∀ c,zlX T' ps c r=zlX T ps c r:=λ c=>zoV r c λ p hp=>h p (qa _ hp)
  have hx:ev T' x=ev T x:=h (i,x) qb
  simp only [zlX,hx,ih]
theorem zoW {T T':List (Nat×LV)} {es:Nat}:∀ (l:List (Nat×Operand)),(∀ p∈l,ev T' p.2=ev T p.2)→zlN T' es l=zlN T es l
 | [],_=>rfl
 | (i,x) :: r,h=>by
  have hx:ev T' x=ev T x:=h (i,x) qb
  simp only [zlN,hx,zoW r λ p hp=>h p (qa _ hp)]
theorem zqs {T T':List (Nat×LV)} {o:Option Operand} (h:∀ x,o=some x→ev T' x=ev T x):bnd T' o=bnd T o:=by
 cases o with
 | none=>rfl
 | some x=>simp only [bnd,h x rfl]
theorem zrU {T T':List (Nat×LV)} {b:Builtin} {l:List Operand} {ts:List Nat} (h:∀ x∈l,ev T' x=ev T x):zmm tab T' b l ts=zmm tab T b l ts:=by
 match l with
 | []=>unfold zmm;cases b<;>rfl
 | [x]=>have h1:=h x (by simp);unfold zmm;cases b<;>first | rfl | (cases ts with | nil=>rfl | cons t r=>cases r with | nil=>simp only [h1] | cons _ _=>rfl)
 | [x,y]=>have h1:=h x (by simp);have h2:=h y (by simp);unfold zmm;cases b<;>simp only [h1,h2]
 | _ :: _ :: _ :: _=>unfold zmm;cases b<;>rfl
theorem zq2 {T T':List (Nat×LV)} {op:Op} (h:∀ x∈op.operands,ev T' x=ev T x):zmZ P tab T' op=zmZ P tab T op:=by
 cases op<;>simp only [zmZ]<;>(try rfl)
 case move x=>rw [h x (by simp [Op.operands])]
 case assign x=>rw [h x (by simp [Op.operands])]
 case pick c a b=>rw [h c (by simp [Op.operands]),h a (by simp [Op.operands]),h b (by simp [Op.operands])]
 case binOp op t x y t'=>rw [h x (by simp [Op.operands]),h y (by simp [Op.operands])]
 case unOp op t x=>rw [h x (by simp [Op.operands])]
 case extract x j=>rw [h x (by simp [Op.operands])]
 case fieldAddr t x f=>rw [h x (by simp [Op.operands])]
 case nilCheck x=>rw [h x (by simp [Op.operands])]
 case indexAddr t x y=>rw [h x (by simp [Op.operands]),h y (by simp [Op.operands])]
 case index t x y=>rw [h x (by simp [Op.operands]),h y (by simp [Op.operands])]
 case field t x f=>rw [h x (by simp [Op.operands])]
 case convert t u x=>rw [h x (by simp [Op.operands])]
 case makeFunc fn first caps =>
  rw [zyG λ x hx=>h x (by simp [Op.operands] at hx ⊢;exact .inr hx)]
 case slice t x lo hi mx =>
  unfold zvS
  rw [h x (by simp [Op.operands]),zqs λ y hy=>h y (by subst hy;simp [Op.operands]),zqs (o:=hi) λ y hy=>h y (by subst hy;simp [Op.operands]),zqs (o:=mx) λ y hy=>h y (by subst hy;simp [Op.operands])]
 case build t parts =>
  have hp:∀ ps cells,zlX T' ps cells parts.toList=zlX T ps cells parts.toList:=λ ps cells=>zoV _ _ λ p hp=>h p.2 (by simp [Op.operands];exact ⟨p.1,by simpa using hp⟩)
  simp only [hp]
 case call c =>
  split
  ·rename_i b hc
   exact zrU λ x hx=>h x (by simp [Op.operands,Call.operands];right;simpa using hx)
  ·rfl
theorem zsM {H H':zkO} {lv:LV} (h:∀ id es lo len mc ex,lv=.os id es lo len mc ex→H' id=H id):zlR H' lv=zlR H lv:=by
 cases lv with
 | os id es lo len mc ex=>simp only [zlR,h id es lo len mc ex rfl]
 | lf t l=>cases l<;>rfl
 | _=>rfl
theorem zsN {s s':St} {l:List Operand} {ts:List Nat} (h:∀ x∈l,ev s'.T x=ev s.T x) (hH:s'.H=s.H) (hn:s'.nx=s.nx):zmU tab s' l ts=zmU tab s l ts:=by
 match l,ts with
 | [x,y],[t,u] =>
  have h1:=h x (by simp)
  have h2:=h y (by simp)
  simp only [zmU,zmb,h1,h2,hH,hn]
 | [],_=>rfl
 | [x],_=>rfl
 | _ :: _ :: _ :: _,_=>rfl
 | [_,_],[]=>rfl
 | [_,_],[_]=>rfl
 | [_,_],_ :: _ :: _ :: _=>rfl
theorem ztR {s s':St} {l:List Operand} {ts:List Nat} (h:∀ x∈l,ev s'.T x=ev s.T x) (hH:s'.H=s.H) (hn:s'.nx=s.nx):zoU tab s' l ts=zoU tab s l ts:=by
 match l,ts with
 | [x],[t] =>
  have h1:=h x (by simp)
  simp only [zoU,h1,hH,hn]
 | [],_=>rfl
 | _ :: _ :: _,_=>rfl
 | [_],[]=>rfl
 | [_],_ :: _ :: _=>rfl
theorem zoX {T T':List (Nat×LV)} {ss:List DSh} {es:Nat}:∀ l:List (Nat×Operand),(∀ p∈l,ev T' p.2=ev T p.2)→zlO T' ss es l=zlO T ss es l
 | [],_=>rfl
 | (i,x) :: r,h=>by
  have h1:=h (i,x) (by simp)
  have h2:=zoX (ss:=ss) (es:=es) r λ p hp=>h p (qa _ hp)
  simp only at h1
  unfold zlO
  rw [h1,h2]
theorem ztS {T T':List (Nat×LV)} {ss:Option (List DSh)} {es:Nat} (l:List (Nat×Operand)) (h:∀ p∈l,ev T' p.2=ev T p.2):zmG ss T' es l=zmG ss T es l:=by
 unfold zmG
 cases ss with
 | none=>rfl
 | some ss =>
  cases l with
  | nil=>rfl
  | cons p l=>simp only [zoX (p :: l) h]
theorem zxt {s s':St} {op:Op} (h:∀ x∈op.operands,ev s'.T x=ev s.T x) (hH:s'.H=s.H) (hn:s'.nx=s.nx):opE P tab s' op=opE P tab s op:=by
 have hp:=zq2 (P:=P) (tab:=tab) h
 cases op<;>simp only [opE,hp,hH,hn]
 case box t x=>rw [h x (by simp [Op.operands])]
 case load t x=>rw [h x (by simp [Op.operands])]
 case store t x y=>rw [h x (by simp [Op.operands]),h y (by simp [Op.operands])]
 case makeSlice t x y=>rw [h x (by simp [Op.operands]),h y (by simp [Op.operands])]
 case buildSlice t n parts =>
  have hp:∀ es,zlN s'.T es parts.toList=zlN s.T es parts.toList:=λ es=>zoW _ λ p hp=>h p.2 (by simp [Op.operands];exact ⟨p.1,by simpa using hp⟩)
  have hx:zpv s'.T parts.toList=zpv s.T parts.toList:=zuF _ λ p hp=>h p.2 (by simp [Op.operands];exact ⟨p.1,by simpa using hp⟩)
  have hb:∀ ss es,zmG ss s'.T es parts.toList=zmG ss s.T es parts.toList:=λ ss es=>ztS _ λ p hp=>h p.2 (by simp [Op.operands];exact ⟨p.1,by simpa using hp⟩)
  simp only [hp,hx,hb]
 case convert t u x=>rw [h x (by simp [Op.operands])]
 case call c =>
  rw [zsN (λ x hx=>h x (by simp [Op.operands,Call.operands];right;simpa using hx)) hH hn,ztR (λ x hx=>h x (by simp [Op.operands,Call.operands];right;simpa using hx)) hH hn]
theorem zvY {op:Op} (hk:zk0 op≤1):zm0 op=none:=by
 cases op<;>try rfl
 rename_i c
 simp only [zk0] at hk
 simp only [zm0]
 split at hk<;>simp_all
theorem zuJ {s s':St} {op:Op} (hk:zk0 op≤1) (h:∀ x∈op.operands,ev s'.T x=ev s.T x) (hw:∀ id,wid s.T op=some id→hp s'.H id=hp s.H id) :
  opE P tab s' op=(opE P tab s op).map λ r=>⟨r.pre,r.v,s'.H,s'.nx⟩:=by
 have hpu:=zq2 (P:=P) (tab:=tab) h
 have pur:(zmZ P tab s'.T op).map (λ p=>(⟨p.1,p.2,s'.H,s'.nx⟩:Res))=((zmZ P tab s.T op).map λ p=>(⟨p.1,p.2,s.H,s.nx⟩:Res)).map λ r=>⟨r.pre,r.v,s'.H,s'.nx⟩:=by
  rw [hpu];cases zmZ P tab s.T op<;>rfl
 cases op<;>(try (simp only [zk0] at hk;omega))<;>(try exact pur)
 case load t x =>
  have hx:=h x (by simp [Op.operands])
  simp only [opE,hx]
  cases zkm tab t with
  | none=>rfl
  | some e =>
   simp only
   split
   ·simp only [wid] at hw
    cases hlv:ev s.T x with
    | pb id off =>
     rw [hlv] at hw
     simp only [hw id rfl]
     cases hp s.H id with
     | none=>rfl
     | some q =>
      obtain ⟨fr,o⟩:=q
      cases o with
      | box ls=>simp only;split<;>rfl
      | arr _ _ _=>rfl
      | deep _ _=>rfl
      | foc _ _ _ _=>rfl
    | pe id es i off =>
     rw [hlv] at hw
     simp only [hw id rfl]
     cases hp s.H id with
     | none=>rfl
     | some q =>
      obtain ⟨fr,o⟩:=q
      cases o with
      | box ls=>rfl
      | arr _ _ _=>simp only;split<;>rfl
      | deep _ _=>simp only;split<;>rfl
      | foc _ _ _ _=>simp only;split<;>rfl
    | _=>rfl
   ·rfl
 case convert t u x =>
  have hx:=h x (by simp [Op.operands])
  simp only [opE]
  cases zkm tab t with
  | none=>rfl
  | some e =>
   simp only
   cases e.sh with
   | slice el =>
    have hsr:zlR (hp s'.H) (ev s.T x)=zlR (hp s.H) (ev s.T x):=zsM λ id es lo len mc ex he=>hw id (by simp [wid,he])
    simp only [hx,hsr]
    cases zkm tab el<;>try rfl
    cases zkm tab u<;>try rfl
    cases zlR (hp s.H) (ev s.T x)<;>try rfl
    rename_i ee f q
    obtain ⟨tt,rows⟩:=q
    simp only
    split<;>rfl
   | _=>exact pur
 case call c =>
  simp only [opE]
  split
  ·rename_i hc
   simp [zk0,hc] at hk
  ·rename_i hc
   simp [zk0,hc] at hk
  ·exact pur
theorem zxu {s:St} {op:Op} (hk:zk0 op≤1) {r:Res} (h:opE P tab s op=some r):r.H=s.H∧r.nx=s.nx:=by
 have:=zuJ (P:=P) (tab:=tab) (s:=s) (s':=s) hk (λ _ _=>rfl) (λ _ _=>rfl)
 rw [h] at this
 simp only [Option.map_some,Option.some.injEq] at this
 rw [this]
 exact ⟨rfl,rfl⟩
def Eqs (lv:LV) (H:HL) (nx:Nat):LV→HL→Nat→Prop:=λ a b c=>a=lv∧b=H∧c=nx
theorem zm1 {T:List (Nat×LV)} {op:Op} {q:Bool×LV} (h:znY tab T op=some q):zk0 op=3:=by
 unfold znY at h
 split at h
 ·rename_i op t x y t'
  split at h
  rotate_left
  ·cases h
  rename_i h0
  have h:=h0
  unfold zvV at h
  simp only [Bool.and_eq_true] at h
  obtain ⟨⟨⟨h1,h2⟩,h3⟩,h4⟩:=h
  split at h2
  ·rfl
  ·cases h2
 ·cases h
theorem zAr {s:St} {op:Op} {K:LV→HL→Nat→Prop} (hk:zk0 op≠3) (h:opW P tab s op K):∃ lv H nx,K lv H nx∧opW P tab s op (Eqs lv H nx):=by
 unfold opW at h
 split at h
 ·rename_i f args hc
  unfold zs2 at h
  split at h
  ·rename_i g caps hf
   obtain ⟨h1,ids,args',args2,H0,res,H1,nxr,a1,a2,a3,a4,a5,a6,a7,a8,hK⟩:=h
   refine ⟨_,_,_,hK,?_⟩
   unfold opW
   rw [hc]
   simp only [zs2,hf]
   exact ⟨h1,ids,args',args2,H0,res,H1,nxr,a1,a2,a3,a4,a5,a6,a7,a8,rfl,rfl,rfl⟩
  ·exact h.elim
 ·rename_i hc
  unfold plain at h
  split at h
  ·rename_i r hr
   refine ⟨_,_,_,h.2,?_⟩
   unfold opW
   rw [hc]
   simp only [plain,hr]
   exact ⟨h.1,rfl,rfl,rfl⟩
  ·obtain ⟨_,_,h1,_⟩:=h;exact absurd (zm1 h1) hk
theorem zyH {s s':St} {op:Op} {K:LV→HL→Nat→Prop} (hk:zk0 op≠3) (h:opW P tab s op K) (ho:∀ x∈op.operands,ev s'.T x=ev s.T x) (hH:s'.H=s.H) (hn:s'.nx=s.nx):opW P tab s' op K:=by
 unfold opW at h ⊢
 cases hc:zm0 op with
 | some q =>
  obtain ⟨f,args⟩:=q
  rw [hc] at h
  simp only at h ⊢
  have hop:∃ cl:Call,op=.call cl∧cl.callee=.value f∧cl.args=args:=by
   unfold zm0 at hc
   split at hc
   ·rename_i cl
    split at hc
    ·rename_i f' hcl;cases hc;exact ⟨cl,rfl,hcl,rfl⟩
    ·cases hc
   ·cases hc
  obtain ⟨cl,rfl,hcl,rfl⟩:=hop
  rw [ho f (by simp [Op.operands,Call.operands,hcl]),zyG λ x hx=>ho x (by simp [Op.operands,Call.operands];right;simpa using hx)]
  unfold zs2 at h ⊢
  split at h
  ·unfold zyx at h ⊢
   rw [hH,hn]
   exact h
  ·exact h.elim
 | none =>
  rw [hc] at h
  simp only [plain] at h ⊢
  rw [zxt ho hH hn]
  cases hr:opE P tab s op with
  | none =>
   rw [hr] at h
   obtain ⟨_,_,h1,_⟩:=h;exact absurd (zm1 h1) hk
  | some r=>rw [hr] at h;exact h
theorem zuK {s s':St} {op:Op} {lv:LV} {H:HL} {nx:Nat} (hk:zk0 op≤1) (h:opW P tab s op (Eqs lv H nx)) (ho:∀ x∈op.operands,ev s'.T x=ev s.T x) (hw:∀ id,wid s.T op=some id→hp s'.H id=hp s.H id) :
  (H=s.H∧nx=s.nx)∧opW P tab s' op (Eqs lv s'.H s'.nx):=by
 unfold opW at h ⊢
 rw [zvY hk] at h ⊢
 simp only [plain] at h ⊢
 rw [zuJ hk ho hw]
 cases hr:opE P tab s op with
 | none =>
  rw [hr] at h
  obtain ⟨_,_,h1,_⟩:=h
  have:=zm1 h1
  omega
 | some r =>
  rw [hr] at h
  obtain ⟨h1,h2,h3,h4⟩:=h
  obtain ⟨g1,g2⟩:=zxu hk hr
  exact ⟨⟨h3 ▸ g1,h4 ▸ g2⟩,h1,h2,rfl,rfl⟩
end
end Go.TL

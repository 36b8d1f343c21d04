import Derived.Test.YteonagfnhdlfcaaGreatDoorTlConv
open Nat renaming add_assoc → qa, add_mul → qb
open List renaming getElem_mem → qc, map_append → qd, map_set → qe, take_of_length_le → qf, mem_of_mem_drop → qg, mem_of_mem_take → qh, getElem_take → qj, getElem_drop → qk, getElem_map → qm, take_zero → qn, map_cons → qp
open Bool renaming false_eq_true → qi, false_and → qo
open Option renaming getD_some → ql
set_option linter.unusedSimpArgs false
set_option linter.unusedVariables false
noncomputable section
namespace Go.TL
open Go
theorem zrJ {E:Env} {b:Bool} {x y:Code} {d:Nat} {s:St} {st:List Fm} (c:Bool) (e:b=c) (h1:c=true→Bs E true x y d s st) (h2:c=false→Bs E false x y d s st):Bs E b x y d s st:=by
 subst e;exact zzX h1 h2
def zx4 {σ ρ:Type} (Z:σ→St) (step:σ→Option (σ⊕ρ)) (y:ρ):Nat→St→Prop:=λ n s=>∃ g,Loops step n g y∧s=Z g
theorem zlo {E:Env} {x:Code} {s:St} {st:List Fm} {σ ρ:Type} (Z:σ→St) (step:σ→Option (σ⊕ρ)) (y:ρ) (s0:σ) (h0:zln step s0=some y) (hw:Weak E.m s (Z s0))
  (h:∀ n g z,step g=some z→LK step n z y→W E x (Z g) (.loop (zx4 Z step y) n :: st)):W E (.loop x) s st:=by
 obtain ⟨n,hn⟩:=zqd h0
 rw [S.W_loop]
 refine ⟨zx4 Z step y,n,⟨Z s0,hw,s0,hn,rfl⟩,λ n s hI=>?_⟩
 obtain ⟨g,hg,rfl⟩:=hI
 obtain ⟨z,h1,h2⟩:=hg.round
 exact h n g z h1 h2
theorem zll {E:Env} {s:St} {st:List Fm} {σ ρ:Type} {Z:σ→St} {step:σ→Option (σ⊕ρ)} {y:ρ} {n:Nat} {s':σ} (hk:LK step n (.inl s') y) (hw:Weak E.m s (Z s')) :
  X E .normal s (.loop (zx4 Z step y) n :: st):=by
 obtain ⟨m,hm,hl⟩:=hk
 rw [S.X_loop_n]
 exact ⟨_,hm,_,hw,s',hl,rfl⟩
attribute [irreducible] zx4
theorem zmS {E:Env} {g:FuncId} {caps args args1 args':List LV} {H1:HL} {nxr:Nat} {res:LV} {wd dst:Option Nat} {md:Md} {all:Array Oper} {r:List Oper} {s:St} {st:List Fm} (h:Fn E.P g args' [] 0 res H1 nxr)
  (h1:zmK [] (hp s.H) (args++caps)=some args1) (hf:FitAll args1 args') (h6:zl8 [] (hp s.H) (args++caps)=[]∨(zvy res=true∧∀ p∈H1,∀ o,p.2=some o→zm0 o.2=true))
  (hK:R E (md.nx wd s.H (zmM [] (hp s.H) s.nx H1 s.H)) all r (s.put dst (zqv [] s.nx res) (zmM [] (hp s.H) s.nx H1 s.H) (s.nx+nxr)) st):Cl E (.fn g caps) args wd dst md all r s st:=by
 unfold Cl
 exact ⟨h.1,[],args',args1,[],res,H1,nxr,h1,hf,rfl,List.nodup_nil,λ i _ hi=>by simp at hi,h.2,h6,λ k hk=>by simp at hk,hK⟩
theorem zrh {E:Env} {g:FuncId} {caps args args1 args':List LV} {ids:List Nat} {H0 H1:HL} {nxr:Nat} {res:LV} {wd dst:Option Nat} {md:Md} {all:Array Oper} {r:List Oper} {s:St} {st:List Fm} (h:Fn E.P g args' H0 ids.length res H1 nxr)
  (h1:zmK ids (hp s.H) (args++caps)=some args1) (hf:FitAll args1 args') (h3:znz ids (hp s.H) 0 ids=some H0) (h4:ids.Nodup) (h5:zl8 ids (hp s.H) (args++caps)=[]) (h7:(List.range ids.length).all (λ k=>(zli H1 k).isSome)=true)
  (hK:R E (md.nx wd s.H (zmM ids (hp s.H) s.nx H1 s.H)) all r (s.put dst (zqv ids s.nx res) (zmM ids (hp s.H) s.nx H1 s.H) (s.nx+(nxr - ids.length))) st):Cl E (.fn g caps) args wd dst md all r s st:=by
 unfold Cl
 exact ⟨h.1,ids,args',args1,H0,res,H1,nxr,h1,hf,h3,h4,λ i hi=>by (rw [h5] at hi;simp at hi),h.2,.inl h5,λ k hk=>List.all_eq_true.1 h7 k (List.mem_range.2 hk),hK⟩
def mnE (f:Int→Int→Int):Option Value→Option Value→Option (Prop×LV)
 | some (.int k p),some (.int _ q)=>some (True,.lf false (.sc (.int k (f p q))))
 | _,_=>none
namespace S
@[go_sem] theorem zGN (f:Int→Int→Int) (k k':IntKind) (p q:Int):mnE f (some (.int k p)) (some (.int k' q))=some (True,.lf false (.sc (.int k (f p q)))):=rfl
@[go_sem] theorem zFc (P:Program) (tab:Tab) (s:St) (x y:Operand) (t u:Nat):opE P tab s (.call { callee:=.builtin .max,args:=#[x,y],argTypes:=#[t,u] })=zpa s (mnE max (sc? (ev s.T x)) (sc? (ev s.T y))):=by
 simp only [opE,zmR,zod]
 unfold znw mnE
 simp only
 rcases sc? (ev s.T x) with _ | (_ | _ | _ | _ | _ | _ | _ | _ | _ | _ | _ | _ | _ | _)<;>(try rfl)<;>rcases sc? (ev s.T y) with _ | (_ | _ | _ | _ | _ | _ | _ | _ | _ | _ | _ | _ | _ | _)<;>rfl
end S
abbrev Bd:=Option (IntKind×Int)
def zz9:Option Value→Option Bd
 | some (.int k n)=>some (some (k,n))
 | _=>none
def zxb (l h:Bd) (b:ByteArray):Option (Prop×LV):=some (0≤zlv l∧zlv l≤zlp h b.size∧zlp h b.size≤b.size,.lf false (.sc (.string (b.extract (zlv l).toNat (zlp h b.size).toNat))))
def zv6 (l h:Bd) (tt:Bool) (rows:List (List Leaf)):Option TE→Option (Prop×LV)
 | some ee=>some ((0≤zlv l∧zlv l≤zlp h rows.length∧zlp h rows.length≤rows.length)∧(0 < zlv l→∀ r∈rows,r.length=ee.size),.lf tt (.sl ((rows.drop (zlv l).toNat).take ((zlp h rows.length).toNat - (zlv l).toNat))))
 | none=>none
def zv7 (l h:Bd) (id es o0 len mc:Nat) (ex:Bool):Option TE→Option (Prop×LV)
 | some ee=>if ee.size=es then some (0≤zlv l∧zlv l≤zlp h len∧zlp h len≤((max len mc:Nat):Int),.os id es (o0+(zlv l).toNat) ((zlp h len).toNat - (zlv l).toNat) (max len mc - (zlv l).toNat) (ex || false)) else none
 | none=>none
def zCr (l h:Bd):Option TE→Option (Prop×LV)
 | some _=>some (zlv l=0∧zlp h 0=0∧(0:Int)=0,.nl)
 | none=>none
def zxc (tab:Tab) (l h:Bd):Option TE→LV→Option (Prop×LV)
 | some ⟨_,_,_,.str⟩,.lf _ (.sc (.string b))=>zxb l h b
 | some ⟨_,_,_,.slice el⟩,.lf tt (.sl rows)=>zv6 l h tt rows (zli tab el)
 | some ⟨_,_,_,.slice el⟩,.os id es o0 len mc ex=>zv7 l h id es o0 len mc ex (zli tab el)
 | some ⟨_,_,_,.slice el⟩,.nl=>zCr l h (zli tab el)
 | _,_=>none
namespace S
@[go_sem] theorem zGa (k:IntKind) (n:Int):zz9 (some (.int k n))=some (some (k,n)):=rfl
theorem zFd (T:List (Nat×LV)) (x:Operand):bnd T (some x)=zz9 (sc? (ev T x)):=by
 unfold bnd zz9
 simp only
 rcases sc? (ev T x) with _ | (_ | _ | _ | _ | _ | _ | _ | _ | _ | _ | _ | _ | _ | _)<;>rfl
def zCs (tab:Tab) (e:Option TE) (x:LV):Option Bd→Option Bd→Option (Prop×LV)
 | some l,some h=>zxc tab l h e x
 | _,_=>none
@[go_sem] theorem zGb (tab:Tab) (e:Option TE) (x:LV) (l h:Bd):zCs tab e x (some l) (some h)=zxc tab l h e x:=rfl
def bdO (T:List (Nat×LV)):Option Operand→Option Bd
 | none=>some none
 | some x=>zz9 (sc? (ev T x))
theorem ztg (T:List (Nat×LV)) (x:Option Operand):bnd T x=bdO T x:=by
 cases x with
 | none=>rfl
 | some x=>exact zFd T x
@[go_sem] theorem zGc (T:List (Nat×LV)):bdO T none=some none:=rfl
@[go_sem] theorem zGd (T:List (Nat×LV)) (x:Operand):bdO T (some x)=zz9 (sc? (ev T x)):=rfl
@[go_sem] theorem zGO:zlv none=0:=rfl
@[go_sem] theorem zGP (k:IntKind) (n:Int):zlv (some (k,n))=n:=rfl
@[go_sem] theorem zGQ (n:Int):zlp none n=n:=rfl
@[go_sem] theorem zGR (k:IntKind) (n m:Int):zlp (some (k,n)) m=n:=rfl
@[go_sem] theorem zFe (tab:Tab) (l h:Bd) (a b:Nat) (z:List Value) (t:Bool) (x:ByteArray):zxc tab l h (some ⟨a,b,z,.str⟩) (.lf t (.sc (.string x)))=zxb l h x:=rfl
@[go_sem] theorem zGe (tab:Tab) (l h:Bd) (a b:Nat) (z:List Value) (el:Nat) (t:Bool) (rows:List (List Leaf)):zxc tab l h (some ⟨a,b,z,.slice el⟩) (.lf t (.sl rows))=zv6 l h t rows (zli tab el):=rfl
@[go_sem] theorem zGf (tab:Tab) (l h:Bd) (a b:Nat) (z:List Value) (el id es o0 len mc:Nat) (ex:Bool):zxc tab l h (some ⟨a,b,z,.slice el⟩) (.os id es o0 len mc ex)=zv7 l h id es o0 len mc ex (zli tab el):=rfl
@[go_sem] theorem zGg (l h:Bd) (b:ByteArray):zxb l h b=some (0≤zlv l∧zlv l≤zlp h b.size∧zlp h b.size≤b.size,.lf false (.sc (.string (b.extract (zlv l).toNat (zlp h b.size).toNat)))):=rfl
@[go_sem] theorem zGS (l h:Bd) (tt:Bool) (rows:List (List Leaf)) (ee:TE):zv6 l h tt rows (some ee)=some ((0≤zlv l∧zlv l≤zlp h rows.length∧zlp h rows.length≤rows.length)∧(0 < zlv l→∀ r∈rows,r.length=ee.size),.lf tt (.sl ((rows.drop (zlv l).toNat).take ((zlp h rows.length).toNat - (zlv l).toNat)))):=rfl
@[go_sem] theorem zGT (l h:Bd) (id es o0 len mc:Nat) (ex:Bool) (a b:Nat) (z:List Value) (sh:Sh):zv7 l h id es o0 len mc ex (some ⟨a,b,z,sh⟩)=if a=es then some (0≤zlv l∧zlv l≤zlp h len∧zlp h len≤((max len mc:Nat):Int),.os id es (o0+(zlv l).toNat) ((zlp h len).toNat - (zlv l).toNat) (max len mc - (zlv l).toNat) (ex || false)) else none:=rfl
@[go_sem] theorem zGh (P:Program) (tab:Tab) (s:St) (t:Nat) (x:Operand) (lo hi:Option Operand):opE P tab s (.slice t x lo hi none)=zpa s (zCs tab (zli tab t) (ev s.T x) (bdO s.T lo) (bdO s.T hi)):=by
 rw [zxY]
 refine congrArg _ ?_
 unfold zw0
 rw [ztg,ztg,show bnd s.T none=some none from rfl]
 cases bdO s.T lo with
 | none=>rfl
 | some l =>
  cases bdO s.T hi with
  | none=>rfl
  | some h =>
   cases zli tab t with
   | none=>rfl
   | some e =>
    obtain ⟨a,b,z,sh⟩:=e
    cases sh<;>(try rfl)
    ·generalize ev s.T x=v
     rcases v with _ | ⟨_,_ | _⟩ | _ | _ | _ | _ | _ | _ | _ | _<;>(try rfl)
     rename_i v
     cases v<;>rfl
    ·rename_i el
     simp only [zCs]
     generalize ev s.T x=v
     cases hee:zli tab el with
     | none =>
      rcases v with _ | ⟨_,_ | _⟩ | _ | _ | _ | _ | _ | _ | _ | _<;>(simp only [zxc,zv6,zv7,hee])<;>rfl
     | some ee =>
      have hno:¬ (h.map (·.2)=some 0∧(none:Bd).map (·.2)=some 0∧lo.isNone=true):=λ hh=>by cases hh.2.1
      rcases v with _ | ⟨_,_ | _⟩ | _ | _ | _ | _ | _ | _ | _ | _<;>simp only [hee,if_neg hno,zxc,zv6,zv7]<;>(try rfl)
      rename_i len mc ex
      have hm:max (len:Int) mc=((max len mc:Nat):Int):=by omega
      have hn:zlp (none:Bd) ((max len mc:Nat):Int)=((max len mc:Nat):Int):=rfl
      simp [hm,hn]
def zx5 (tab:Tab) (e:Option TE) (x:LV) (l h m:Option Bd):Option (Prop×LV):=match l,h,m,e with
 | some l,some h,some m,some e=>match e.sh with
  | .slice el=>match zli tab el with
   | some ee=>match x with
    | .os id es o0 len mc ex=>if ee.size=es∧(m.isSome=true→h.isSome=true) then some (0≤zlv l∧zlv l≤zlp h len∧zlp h len≤zlp m ((max (len:Int) mc))∧zlp m ((max (len:Int) mc))≤((max len mc:Nat):Int),
      .os id es (o0+(zlv l).toNat) ((zlp h len).toNat - (zlv l).toNat) ((zlp m ((max (len:Int) mc))).toNat - (zlv l).toNat) (ex || m.isSome)) else none
    | .nl=>if m.isSome=true→h.isSome=true then some (zlv l=0∧zlp h 0=0∧zlp m 0=0,.nl) else none
    | _=>none
   | none=>none
  | _=>none
 | _,_,_,_=>none
def zxd (l:Bd) (k k':IntKind) (n n':Int) (id es o0 len mc:Nat) (ex:Bool):Option TE→Option (Prop×LV)
 | some ee=>if ee.size=es then some (0≤zlv l∧zlv l≤n∧n≤n'∧n'≤((max len mc:Nat):Int),.os id es (o0+(zlv l).toNat) (n.toNat - (zlv l).toNat) (n'.toNat - (zlv l).toNat) (ex || true)) else none
 | none=>none
@[go_sem] theorem zGi (tab:Tab) (l:Bd) (k k':IntKind) (n n':Int) (a b:Nat) (z:List Value) (el id es o0 len mc:Nat) (ex:Bool):zx5 tab (some ⟨a,b,z,.slice el⟩) (.os id es o0 len mc ex) (some l) (some (some (k,n))) (some (some (k',n')))=zxd l k k' n n' id es o0 len mc ex (zli tab el):=by
 unfold zx5 zxd
 simp only
 cases zli tab el with
 | none=>rfl
 | some ee =>
  have hm:max (len:Int) mc=((max len mc:Nat):Int):=by omega
  simp only [Option.isSome,true_implies,and_true,hm]
  rfl
@[go_sem] theorem zGj (l:Bd) (k k':IntKind) (n n':Int) (id es o0 len mc:Nat) (ex:Bool) (a b:Nat) (z:List Value) (sh:Sh):zxd l k k' n n' id es o0 len mc ex (some ⟨a,b,z,sh⟩)=if a=es then some (0≤zlv l∧zlv l≤n∧n≤n'∧n'≤((max len mc:Nat):Int),.os id es (o0+(zlv l).toNat) (n.toNat - (zlv l).toNat) (n'.toNat - (zlv l).toNat) (ex || true)) else none:=rfl
def zCY (l:Bd) (n n':Int):Option TE→Option (Prop×LV)
 | some _=>some (zlv l=0∧n=0∧n'=0,.nl)
 | none=>none
@[go_sem] theorem zGU (l:Bd) (n n':Int) (ee:TE):zCY l n n' (some ee)=some (zlv l=0∧n=0∧n'=0,.nl):=rfl
@[go_sem] theorem zFf (P:Program) (tab:Tab) (s:St) (t:Nat) (x lo mx:Operand) (hi:Option Operand):opE P tab s (.slice t x (some lo) hi (some mx))=zpa s (zx5 tab (zli tab t) (ev s.T x) (bdO s.T (some lo)) (bdO s.T hi) (bdO s.T (some mx))):=by
 rw [zxY]
 refine congrArg _ ?_
 unfold zw0 zx5
 rw [ztg,ztg,ztg]
 cases bdO s.T (some lo) with
 | none=>rfl
 | some l =>
  cases bdO s.T hi with
  | none=>rfl
  | some h =>
   cases bdO s.T (some mx) with
   | none=>rfl
   | some m =>
    cases zli tab t with
    | none=>rfl
    | some e =>
     obtain ⟨a,b,z,sh⟩:=e
     cases sh<;>(try rfl)
     ·generalize ev s.T x=v
      simp only
      cases sc? v with
      | none=>rfl
      | some u=>cases u<;>rfl
     ·rename_i el
      simp only
      generalize ev s.T x=v
      cases hee:zli tab el with
      | none=>rfl
      | some ee =>
       have hno:¬ (h.map (·.2)=some 0∧m.map (·.2)=some 0∧(some lo).isNone=true):=λ hh=>by cases hh.2.2
       simp only [if_neg hno]
       rcases v with _ | ⟨_,_ | _⟩ | _ | _ | _ | _ | _ | _ | _ | _<;>rfl
end S
def zqx (id:Nat) (t:Bool) (es:Nat) (rows:List (List Leaf)):LV→LV
 | .os id' es' lo len mc ex=>if id'=id∧es'=es∧lo+len≤rows.length then .lf t (.sl ((rows.drop lo).take len)) else .os id' es' lo len mc ex
 | lv=>lv
def zpY (id:Nat) (t:Bool) (es:Nat) (rows:List (List Leaf)):LV→LV
 | .ag ls=>.ag (ls.map (zqx id t es rows))
 | lv=>zqx id t es rows lv
def zoM (id:Nat) (t:Bool) (es:Nat) (rows:List (List Leaf)):Option (Bool×Ob)→Option (Bool×Ob)
 | some (fr,.box ls)=>some (fr,.box (ls.map (zqx id t es rows)))
 | o=>o
def St.frzA (s:St) (id:Nat):Option (Bool×Ob)→St
 | some (true,.arr t es rows)=>⟨s.T.map λ p=>(p.1,zpY id t es rows p.2),(id,none) :: s.H.map λ p=>(p.1,zoM id t es rows p.2),s.nx,s.nt⟩
 | some (true,.deep ss rows)=>⟨s.T.map λ p=>(p.1,zpY id false ss.length rows p.2),(id,none) :: s.H.map λ p=>(p.1,zoM id false ss.length rows p.2),s.nx,s.nt⟩
 | _=>s
def St.frz (s:St) (id:Nat):St:=s.frzA id (hp s.H id)
section
variable {w0 w:World} {W0:Fr} {c:Ctx} {H:zlM}
theorem zCt (s:Sit w0 W0 c H w) {id es lo len mc:Nat} {ex t:Bool} {rows:List (List Leaf)} {v:Value} (ho:H id=some (true,.arr t es rows)) (hl:lo+len≤rows.length) (hc:Cv w c (.os id es lo len mc ex) v) :
  Cv w (c.freeze id) (.lf t (.sl ((rows.drop lo).take len))) v:=by
 cases hc with
 | os hid hlc hm hx ha hn =>
  rename_i cap a
  obtain ⟨g1,g0,g2,g3⟩:Holds w c (c.loc id) (.arr t es rows):=(s.own id _ ho).2
  refine .lf ?_
  by_cases hz:len=0
  ·subst hz
   rw [qn]
   exact .nil
  ·rcases ha with h0 | rfl
   ·omega
   have hrows:((rows.drop lo).take len).length=len:=by simp;omega
   have:=@RepL.sl w ((c.freeze id).fs t) (c.loc id).b ((c.loc id).base+lo * es) cap es ((rows.drop lo).take len)
    (λ i j=>(w.cell? ⟨(c.loc id).b,(c.loc id).base+lo * es+(i * es+j),none⟩).getD undef)
    (λ r hr=>g0 r (qg (qh hr))) (by omega)
    (λ i j hi hj=>by
     have h1:=zl1 (es:=es) (i:=lo+i) (j:=j) (n:=rows.length) (by omega) hj
     rw [qb] at h1
     refine ⟨.inl (.inr (.inl ⟨rfl,by omega⟩)),?_⟩
     obtain ⟨u,hu,_⟩:=g2 (lo * es+(i * es+j)) (by omega)
     rw [← qa] at hu
     rw [hu];rfl)
    (λ i j hi hj=>by
     have hi':lo+i < rows.length:=by omega
     have hj':j < es:=by rw [← g0 _ (qc hi')];simpa using hj
     have h1:=zl1 (es:=es) (i:=lo+i) (j:=j) (n:=rows.length) hi' hj'
     rw [qb] at h1
     obtain ⟨u,hu,_⟩:=g2 (lo * es+(i * es+j)) (by omega)
     have h3:=g3 (lo+i) j hi' (by rw [g0 _ (qc hi')];exact hj') u (by rw [qb,qa];exact hu)
     rw [← qa] at hu
     simp only [qj,qk,hu,ql]
     exact h3.mono ((c.le_freeze id).fs t) λ _ _ _=>rfl)
   rw [hrows] at this
   exact this
theorem zBu (s:Sit w0 W0 c H w) {id lo len mc:Nat} {ex:Bool} {ss:List DSh} {rows:List (List Leaf)} {v:Value} (ho:H id=some (true,.deep ss rows)) (hl:lo+len≤rows.length) (hc:Cv w c (.os id ss.length lo len mc ex) v) :
  Cv w (c.freeze id) (.lf false (.sl ((rows.drop lo).take len))) v:=by
 cases hc with
 | os hid hlc hm hx ha hn =>
  rename_i cap a
  obtain ⟨g1,g0,g2,B,hB,hd,g3⟩:Holds w c (c.loc id) (.deep ss rows):=(s.own id _ ho).2
  refine .lf ?_
  by_cases hz:len=0
  ·subst hz
   rw [qn]
   exact .nil
  ·rcases ha with h0 | rfl
   ·omega
   have hrows:((rows.drop lo).take len).length=len:=by simp;omega
   have:=@RepL.sl w ((c.freeze id).fs false) (c.loc id).b ((c.loc id).base+lo * ss.length) cap ss.length ((rows.drop lo).take len)
    (λ i j=>(w.cell? ⟨(c.loc id).b,(c.loc id).base+lo * ss.length+(i * ss.length+j),none⟩).getD undef)
    (λ r hr=>g0 r (qg (qh hr))) (by omega)
    (λ i j hi hj=>by
     have h1:=zl1 (es:=ss.length) (i:=lo+i) (j:=j) (n:=rows.length) (by omega) hj
     rw [qb] at h1
     refine ⟨.inl (.inr (.inl ⟨rfl,by omega⟩)),?_⟩
     obtain ⟨u,hu,_⟩:=g2 (lo * ss.length+(i * ss.length+j)) (by omega)
     rw [← qa] at hu
     rw [hu];rfl)
    (λ i j hi hj=>by
     have hi':lo+i < rows.length:=by omega
     have hj':j < ss.length:=by rw [← g0 _ (qc hi')];simpa using hj
     have h1:=zl1 (es:=ss.length) (i:=lo+i) (j:=j) (n:=rows.length) hi' hj'
     rw [qb] at h1
     obtain ⟨u,hu,_⟩:=g2 (lo * ss.length+(i * ss.length+j)) (by omega)
     have h3:=g3 (lo+i) j hi' (by rw [g0 _ (qc hi')];exact hj') hj' u (by rw [qb,qa];exact hu)
     rw [← qa] at hu
     simp only [qj,qk,hu,ql]
     exact h3.rep λ b k hb=>.inl (.inr (.inr (hB _ _ _ hb).1)))
   rw [hrows] at this
   exact this
def zAa (w:World) (c:Ctx) (id:Nat) (t:Bool) (es:Nat) (rows:List (List Leaf)):Prop:=∀ lo len mc ex v,lo+len≤rows.length→Cv w c (.os id es lo len mc ex) v→Cv w (c.freeze id) (.lf t (.sl ((rows.drop lo).take len))) v
theorem zu5 {id es:Nat} {t:Bool} {rows:List (List Leaf)} (ho:zAa w c id t es rows) {lv:LV} {v:Value} (hc:Cv w c lv v):Cv w (c.freeze id) (zqx id t es rows lv) v:=by
 unfold zqx
 split
 ·split
  ·rename_i h
   obtain ⟨rfl,rfl,h⟩:=h
   exact ho _ _ _ _ _ h hc
  ·exact hc.mono (c.le_freeze id) (.refl c w)
 ·exact hc.mono (c.le_freeze id) (.refl c w)
theorem zBv {id es:Nat} {t:Bool} {rows:List (List Leaf)} (ho:zAa w c id t es rows) {lv:LV} {v:Value} (hc:Cv w c lv v):Cv w (c.freeze id) (zpY id t es rows lv) v:=by
 unfold zpY
 split
 ·cases hc with
  | ag cs hn hv h =>
   refine .ag cs (by simpa using hn) (λ j hj=>hv j (by simpa using hj)) λ j hj=>?_
   rw [qm]
   exact zu5 ho (h j (by simpa using hj))
 ·exact zu5 ho hc
end
theorem zCu (f:LV→LV) (hf:f .un=.un) (T:List (Nat×LV)) (i:Nat):tv (T.map λ p=>(p.1,f p.2)) i=f (tv T i):=by
 unfold tv
 induction T with
 | nil=>exact hf.symm
 | cons p r ih =>
  obtain ⟨k,x⟩:=p
  simp only [qp,zli]
  split
  ·rfl
  ·exact ih
theorem zCv (f:Option (Bool×Ob)→Option (Bool×Ob)) (hf:f none=none) (H:HL) (i:Nat):hp (H.map λ p=>(p.1,f p.2)) i=f (hp H i):=by
 unfold hp
 induction H with
 | nil=>exact hf.symm
 | cons p r ih =>
  obtain ⟨k,x⟩:=p
  simp only [qp,zli]
  split
  ·rfl
  ·exact ih
theorem zx6 {w0 w:World} {W0:Fr} {c c0:Ctx} {s:St} {a:Act} (hle:c0.Le c) (hr:Rel w0 W0 c s a w) {id es:Nat} {t:Bool} {rows:List (List Leaf)} {o:Ob} (ho:hp s.H id=some (true,o)) (hf:zAa w c id t es rows) :
  Rl w0 W0 c0 ⟨s.T.map λ p=>(p.1,zpY id t es rows p.2),(id,none) :: s.H.map λ p=>(p.1,zoM id t es rows p.2),s.nx,s.nt⟩ a w:=by
 have hsit:=hr.sit.freeze ho
 refine ⟨c.freeze id,hle.trans (c.le_freeze id),?_,hr.nx,λ i=>?_,hr.sz,hr.df⟩
 ·have hH:∀ i o,hp ((id,none) :: s.H.map λ p=>(p.1,zoM id t es rows p.2)) i=some o→∃ o',TL.upd (hp s.H) id none i=some (o.1,o')∧(∀ L,Holds w c L o'→Holds w (c.freeze id) L o.2)∧(zqz o'=true→zqz o.2=true):=by
   intro i o h
   rw [zlC] at h
   by_cases e:i=id
   ·subst e;rw [zmc] at h;cases h
   ·rw [zmd _ _ e,zCv _ rfl] at h
    rw [zmd _ _ e]
    cases hx:hp s.H i with
    | none=>rw [hx] at h;cases h
    | some o1 =>
     obtain ⟨fr,o1⟩:=o1
     rw [hx] at h
     cases o1 with
     | box ls =>
      simp only [zoM] at h
      cases h
      refine ⟨.box ls,rfl,λ L hh=>?_,λ x=>(by cases x)⟩
      obtain ⟨g1,g2,g3⟩:=hh
      exact ⟨by simpa using g1,g2,λ j hj v hv=>by
       simp only [qm]
       exact zu5 hf (g3 j (by simpa using hj) v hv)⟩
     | arr t' es' rows' =>
      simp only [zoM] at h
      cases h
      exact ⟨_,rfl,λ L hh=>hh.mono (c.le_freeze id) (.refl c w) λ _ _ _=>⟨rfl,rfl⟩,λ x=>x⟩
     | deep ss' rows' =>
      simp only [zoM] at h
      cases h
      exact ⟨_,rfl,λ L hh=>hh.mono (c.le_freeze id) (.refl c w) λ _ _ _=>⟨rfl,rfl⟩,λ x=>x⟩
     | foc ss' rows' p' ks' =>
      simp only [zoM] at h
      cases h
      exact ⟨_,rfl,λ L hh=>hh.mono (c.le_freeze id) (.refl c w) λ _ _ _=>⟨rfl,rfl⟩,λ x=>x⟩
  refine ⟨hsit.keep,λ i o h=>?_,λ i j oi oj hi hj hij=>?_,λ i o h=>?_,hsit.old,hsit.new,λ b k v he=>?_,λ i o h=>?_,λ i o h x hx=>?_⟩
  ·obtain ⟨o',h1,h2,_⟩:=hH i o h
   have hne:i≠id:=λ e=>by subst e;rw [zmc] at h1;cases h1
   rw [zmd _ _ hne] at h1
   exact ⟨(hr.sit.own i _ h1).1,h2 _ (hr.sit.own i _ h1).2⟩
  ·obtain ⟨_,h1,_⟩:=hH i oi hi
   obtain ⟨_,h2,_⟩:=hH j oj hj
   exact hsit.dis i j _ _ h1 h2 hij
  ·obtain ⟨o',h1,_⟩:=hH i o h
   have:=hsit.sep i _ h1
   exact this
  ·obtain ⟨r1,r2,r3,r4,r5⟩:=hsit.res b k v he
   exact ⟨r1,r2,r3,r4,λ i o h=>by
    obtain ⟨o',h1,_⟩:=hH i o h
    exact r5 i _ h1⟩
  ·obtain ⟨o',h1,_⟩:=hH i o h
   have:=hsit.pl i _ h1
   exact this
  ·obtain ⟨o',h1,_,h2⟩:=hH i o h
   have:=hsit.mo i _ h1 x hx
   exact ⟨this.1,h2 this.2⟩
 ·show Cv w (c.freeze id) (tv (s.T.map λ p=>(p.1,zpY id t es rows p.2)) i) _
  rw [zCu _ rfl]
  exact zBv hf (hr.tmp i)
theorem zAb {m:Nat} {s:St} (id:Nat):Weak m s (s.frz id):=by
 intro w0 W0 c0 a w hm ⟨c,hle,hr⟩
 unfold St.frz
 unfold St.frzA
 split
 ·rename_i t es rows ho
  exact zx6 hle hr ho λ lo len mc ex v h1 h2=>zCt hr.sit ho h1 h2
 ·rename_i ss rows ho
  exact zx6 hle hr ho λ lo len mc ex v h1 h2=>zBu hr.sit ho h1 h2
 ·exact ⟨c,hle,hr⟩
theorem zmT {tab:Tab} {m:Nat} {rs:List ResultVar} {res:LV} {H1:HL} {nxr:Nat} {e:Exit} {s:St} (id:Nat) (h:zpC tab m rs res H1 nxr e (s.frz id)):zpC tab m rs res H1 nxr e s:=by
 unfold zpC at h ⊢
 obtain ⟨s2,hw,hE⟩:=h
 exact ⟨s2,(zAb id).trans hw,hE⟩
namespace S
@[go_sem] theorem zGV (T:List (Nat×LV)) (H:HL) (nx nt id:Nat):St.frz ⟨T,H,nx,nt⟩ id=St.frzA ⟨T,H,nx,nt⟩ id (hp H id):=rfl
@[go_sem] theorem zGk (T:List (Nat×LV)) (H:HL) (nx nt id:Nat) (t:Bool) (es:Nat) (rows:List (List Leaf)):St.frzA ⟨T,H,nx,nt⟩ id (some (true,.arr t es rows)) =
 ⟨T.map λ p=>(p.1,zpY id t es rows p.2),(id,none) :: H.map λ p=>(p.1,zoM id t es rows p.2),nx,nt⟩:=rfl
@[go_sem] theorem zGl (id:Nat) (t:Bool) (es:Nat) (rows:List (List Leaf)) (id' es' lo len mc:Nat) (ex:Bool):zqx id t es rows (.os id' es' lo len mc ex)=if id'=id∧es'=es∧lo+len≤rows.length then .lf t (.sl ((rows.drop lo).take len)) else .os id' es' lo len mc ex:=rfl
@[go_sem] theorem zGm (id:Nat) (t:Bool) (es:Nat) (rows:List (List Leaf)) (t':Bool) (l:Leaf):zqx id t es rows (.lf t' l)=.lf t' l:=rfl
@[go_sem] theorem zGn (id:Nat) (t:Bool) (es:Nat) (rows:List (List Leaf)):zqx id t es rows .nl=.nl:=rfl
@[go_sem] theorem zGo (id:Nat) (t:Bool) (es:Nat) (rows:List (List Leaf)):zqx id t es rows .un=.un:=rfl
@[go_sem] theorem zGp (id:Nat) (t:Bool) (es:Nat) (rows:List (List Leaf)) (k off:Nat):zqx id t es rows (.pb k off)=.pb k off:=rfl
@[go_sem] theorem zGq (id:Nat) (t:Bool) (es:Nat) (rows:List (List Leaf)) (k e i off:Nat):zqx id t es rows (.pe k e i off)=.pe k e i off:=rfl
@[go_sem] theorem zGr (id:Nat) (t:Bool) (es:Nat) (rows:List (List Leaf)) (t':Bool) (ls:List Leaf):zqx id t es rows (.ra t' ls)=.ra t' ls:=rfl
@[go_sem] theorem zGs (id:Nat) (t:Bool) (es:Nat) (rows:List (List Leaf)) (ls:List LV):zqx id t es rows (.tu ls)=.tu ls:=rfl
@[go_sem] theorem zGt (id:Nat) (t:Bool) (es:Nat) (rows:List (List Leaf)) (ls:List LV):zpY id t es rows (.ag ls)=.ag (ls.map (zqx id t es rows)):=rfl
@[go_sem] theorem zGu (id:Nat) (t:Bool) (es:Nat) (rows:List (List Leaf)) (id' es' lo len mc:Nat) (ex:Bool):zpY id t es rows (.os id' es' lo len mc ex)=zqx id t es rows (.os id' es' lo len mc ex):=rfl
@[go_sem] theorem zGv (id:Nat) (t:Bool) (es:Nat) (rows:List (List Leaf)) (t':Bool) (l:Leaf):zpY id t es rows (.lf t' l)=.lf t' l:=rfl
@[go_sem] theorem zGw (id:Nat) (t:Bool) (es:Nat) (rows:List (List Leaf)):zpY id t es rows .nl=.nl:=rfl
@[go_sem] theorem zGx (id:Nat) (t:Bool) (es:Nat) (rows:List (List Leaf)):zpY id t es rows .un=.un:=rfl
@[go_sem] theorem zGy (id:Nat) (t:Bool) (es:Nat) (rows:List (List Leaf)) (k off:Nat):zpY id t es rows (.pb k off)=.pb k off:=rfl
@[go_sem] theorem zGz (id:Nat) (t:Bool) (es:Nat) (rows:List (List Leaf)) (k e i off:Nat):zpY id t es rows (.pe k e i off)=.pe k e i off:=rfl
@[go_sem] theorem zGA (id:Nat) (t:Bool) (es:Nat) (rows:List (List Leaf)) (t':Bool) (ls:List Leaf):zpY id t es rows (.ra t' ls)=.ra t' ls:=rfl
@[go_sem] theorem zGB (id:Nat) (t:Bool) (es:Nat) (rows:List (List Leaf)) (ls:List LV):zpY id t es rows (.tu ls)=.tu ls:=rfl
@[go_sem] theorem zFg (id:Nat) (t:Bool) (es:Nat) (rows:List (List Leaf)) (fr:Bool) (ls:List LV):zoM id t es rows (some (fr,.box ls))=some (fr,.box (ls.map (zqx id t es rows))):=rfl
@[go_sem] theorem zFh (id:Nat) (t:Bool) (es:Nat) (rows:List (List Leaf)) (fr:Bool) (t':Bool) (es':Nat) (rows':List (List Leaf)):zoM id t es rows (some (fr,.arr t' es' rows'))=some (fr,.arr t' es' rows'):=rfl
@[go_sem] theorem zD9 (id:Nat) (t:Bool) (es:Nat) (rows:List (List Leaf)):zoM id t es rows none=none:=rfl
@[go_sem] theorem zFi (T:List (Nat×LV)) (H:HL) (nx nt id:Nat) (ss:List DSh) (rows:List (List Leaf)):St.frzA ⟨T,H,nx,nt⟩ id (some (true,.deep ss rows)) =
 ⟨T.map λ p=>(p.1,zpY id false ss.length rows p.2),(id,none) :: H.map λ p=>(p.1,zoM id false ss.length rows p.2),nx,nt⟩:=rfl
@[go_sem] theorem zEa (id:Nat) (t:Bool) (es:Nat) (rows:List (List Leaf)) (fr:Bool) (ss:List DSh) (rows':List (List Leaf)):zoM id t es rows (some (fr,.deep ss rows'))=some (fr,.deep ss rows'):=rfl
@[go_sem] theorem zEb {α β:Type} (l:List α) (e:α→β) (a b:β):(l.map e++[a]).set l.length b=l.map e++[b]:=by rw [List.set_append_right _ _ (by simp)];simp
end S
section
variable {α:Type} {f:α→List Leaf} {l:List α} {n:Nat}
theorem zBw:(l.map f).take l.length=l.map f:=qf (by simp)
theorem zpu {k:Nat} (h:∀ x,(f x).length=k):∀ r∈l.map f,r.length=k:=by
 intro r hr
 obtain ⟨x,_,rfl⟩:=List.mem_map.1 hr
 exact h x
theorem toNat_lt {i:Int} {n:Nat} (h:0≤i∧i < (n:Int)):i.toNat < n:=by omega
theorem zCZ:(l.map f).take n=(l.take n).map f:=List.map_take.symm
theorem zC0:(l.map f).drop n=(l.drop n).map f:=List.map_drop.symm
theorem zFj {l':List α}:l.map f++l'.map f=(l++l').map f:=List.map_append.symm
theorem zyH {l:List α}:(l.drop n).take (l.length - n)=l.drop n:=qf (by simp)
end
theorem wI_ (n:Int):IntKind.i64.wrap n=wI n:=by
 unfold IntKind.wrap wI
 simp only [IntKind.bits,IntKind.signed,Bool.true_and,decide_eq_true_eq,ge_iff_le]
 rfl
theorem wU_ (n:Int):IntKind.u64.wrap n=wU n:=by
 unfold IntKind.wrap wU
 simp only [IntKind.bits,IntKind.signed,qo,qi,if_false]
 rfl
theorem wB_ (n:Int):IntKind.u8.wrap n=wB n:=by
 unfold IntKind.wrap wB
 simp only [IntKind.bits,IntKind.signed,qo,qi,if_false]
 rfl
attribute [go_sem] zz8 zBw zCZ zC0 zFj List.drop_zero Nat.sub_zero zBt List.take_length wI_ wU_ wB_ zyH
theorem zAc:∀ a b:List UInt8,Op.bytesLess a b=zl6 a b
 | _,[]=>by cases ‹List UInt8›<;>rfl
 | [],_ :: _=>rfl
 | a :: r,b :: q=>by simp only [Op.bytesLess,zl6,zAc r q]
theorem zFk (a b:ByteArray):Op.bytesLess a.toList b.toList=sLt a b:=zAc _ _
def ztW:List LV→Nat→Option Value
 | [],_=>none
 | x :: _,0=>sc? x
 | _ :: r,n+1=>ztW r n
theorem zu6:∀ (l:List LV) (n:Nat),(l[n]?).bind sc?=ztW l n
 | [],_=>by simp [ztW]
 | x :: _,0=>by simp [ztW]
 | _ :: r,n+1=>by simp only [List.getElem?_cons_succ,ztW];exact zu6 r n
def eqC (e:Option TE) (x y:Option Value) (b:Option Bool):Option Bool:=match e,x,y,b with
 | some e,some x,some y,some b=>match e.sh,x,y with
  | .int _,.int k a,.int k' a'=>if k=k' then some ((a == a') && b) else none
  | .bool,.bool p,.bool q=>some ((p == q) && b)
  | .str,.string p,.string q=>some ((p.toList == q.toList) && b)
  | _,_,_=>none
 | _,_,_,_=>none
def eqR (P:Program) (t:Nat) (op:BinOp) (x:Option Bool):Option (Prop×LV):=match x,op with
 | some b,.eql=>some (EqT P t,.lf false (.sc (.bool b)))
 | some b,.neq=>some (EqT P t,.lf false (.sc (.bool (!b))))
 | _,_=>none
def eqG (P:Program) (tab:Tab) (t:Nat) (op:BinOp) (xs ys:List LV) (e:Option TE):Option (Prop×LV):=match e with
 | some e=>match e.sh with
  | .struct fs=>eqR P t op (ztN tab fs xs ys)
  | _=>none
 | none=>none
namespace S
@[go_sem] theorem zFl (x:LV) (r:List LV):ztW (x :: r) 0=sc? x:=rfl
@[go_sem] theorem zFm (x:LV) (r:List LV) (n:Nat):ztW (x :: r) (n+1)=ztW r n:=rfl
@[go_sem] theorem zC1 (tab:Tab) (xs ys:List LV):ztN tab [] xs ys=some true:=rfl
@[go_sem] theorem zCK (tab:Tab) (ft fo:Nat) (r:List (Nat×Nat)) (xs ys:List LV):ztN tab ((ft,fo) :: r) xs ys=eqC (zli tab ft) (ztW xs fo) (ztW ys fo) (ztN tab r xs ys):=by
 rw [← zu6,← zu6];rfl
@[go_sem] theorem zEc (a b:Nat) (z:List Value) (k0 k:IntKind) (x y:Int) (q:Bool):eqC (some ⟨a,b,z,.int k0⟩) (some (.int k x)) (some (.int k y)) (some q)=some ((x == y) && q):=by simp [eqC]
@[go_sem] theorem zC2 (a b:Nat) (z:List Value) (x y q:Bool):eqC (some ⟨a,b,z,.bool⟩) (some (.bool x)) (some (.bool y)) (some q)=some ((x == y) && q):=rfl
@[go_sem] theorem zEd (a b:Nat) (z:List Value) (x y:ByteArray) (q:Bool):eqC (some ⟨a,b,z,.str⟩) (some (.string x)) (some (.string y)) (some q)=some ((x.toList == y.toList) && q):=rfl
@[go_sem] theorem zGW (P:Program) (tab:Tab) (t:Nat) (op:BinOp) (xs ys:List LV) (a b:Nat) (z:List Value) (fs:List (Nat×Nat)):eqG P tab t op xs ys (some ⟨a,b,z,.struct fs⟩)=eqR P t op (ztN tab fs xs ys):=rfl
@[go_sem] theorem zEe (P:Program) (t:Nat) (b:Bool):eqR P t .eql (some b)=some (EqT P t,.lf false (.sc (.bool b))):=rfl
@[go_sem] theorem zEf (P:Program) (t:Nat) (b:Bool):eqR P t .neq (some b)=some (EqT P t,.lf false (.sc (.bool (!b)))):=rfl
end S
namespace S
@[go_sem] theorem zFn (k:IntKind) (a b:Int):bin .shr (.int .u64 a) (.int k b)=some (.int .u64 (shR 64 a b)):=rfl
@[go_sem] theorem zFo (k:IntKind) (a b:Int):bin .shr (.int .i64 a) (.int k b)=some (.int .i64 (shR 64 a b)):=rfl
end S
def eI (x:Int):List Leaf:=[.sc (.int .i64 x)]
def zFp (x:Int):List Leaf:=[.sc (.int .u64 x)]
def eU8 (x:Int):List Leaf:=[.sc (.int .u8 x)]
def eB (x:Bool):List Leaf:=[.sc (.bool x)]
def eS (x:ByteArray):List Leaf:=[.sc (.string x)]
@[go_sem] theorem eI_ (x:Int):eI x=[.sc (.int .i64 x)]:=rfl
@[go_sem] theorem zGC (x:Int):zFp x=[.sc (.int .u64 x)]:=rfl
@[go_sem] theorem zGX (x:Int):eU8 x=[.sc (.int .u8 x)]:=rfl
@[go_sem] theorem eB_ (x:Bool):eB x=[.sc (.bool x)]:=rfl
@[go_sem] theorem eS_ (x:ByteArray):eS x=[.sc (.string x)]:=rfl
theorem zyJ (l:List Int) (i:Nat) (x:Int):(l.map eI).set i [.sc (.int .i64 x)]=(l.set i x).map eI:=by rw [qe];rfl
theorem zyK (l:List Bool) (i:Nat) (x:Bool):(l.map eB).set i [.sc (.bool x)]=(l.set i x).map eB:=by rw [qe];rfl
theorem zyL (l:List ByteArray) (i:Nat) (x:ByteArray):(l.map eS).set i [.sc (.string x)]=(l.set i x).map eS:=by rw [qe];rfl
theorem zu7 (l:List Int) (i:Nat) (x:Int):(l.map eU8).set i [.sc (.int .u8 x)]=(l.set i x).map eU8:=by rw [qe];rfl
theorem zyM (l:List Int) (x:Int):l.map eI++[[.sc (.int .i64 x)]]=(l++[x]).map eI:=by rw [qd];rfl
theorem zyN (l:List Bool) (x:Bool):l.map eB++[[.sc (.bool x)]]=(l++[x]).map eB:=by rw [qd];rfl
theorem zyO (l:List ByteArray) (x:ByteArray):l.map eS++[[.sc (.string x)]]=(l++[x]).map eS:=by rw [qd];rfl
theorem zu8 (l:List Int) (x:Int):l.map eU8++[[.sc (.int .u8 x)]]=(l++[x]).map eU8:=by rw [qd];rfl
attribute [go_sem] zFk zyJ zyK zyL zu7 zyM zyN zyO zu8
@[go_sem] theorem zEg (l:List ByteArray):zqE (l.map eS)=True:=zvO (λ x l h=>by simp only [eS,List.mem_cons,List.not_mem_nil,or_false] at h;exact ⟨_,h⟩) l
def byC (x:Int):Option (List Int)→Option (List Int)
 | some l=>some (x :: l)
 | none=>none
@[go_sem] theorem zGY (x:Int) (l:List Int):byC x (some l)=some (x :: l):=rfl
@[go_sem] theorem zEh:znm []=some []:=rfl
@[go_sem] theorem zC3 (x:Int) (q:List (List Leaf)):znm ([.sc (.int .u8 x)] :: q)=byC x (znm q):=by
 unfold byC
 show (match zuR [Leaf.sc (.int .u8 x)],znm q with | some n,some l=>some (n :: l) | _,_=>none)=_
 cases znm q<;>rfl
theorem zrK {m:Nat} {s:St} (id:Nat) (hp:zs3 s.H id):Weak m s (s.pack id):=λ w0 W0 c0 a w hm ⟨c,hle,hr⟩=>let ⟨c',h1,h2⟩:=zzG hr id hp;⟨c',hle.trans h1,h2⟩
theorem zxe {m:Nat} {s:St} (id p:Nat) (hp:zs0 s.H id p):Weak m s (s.focus id p):=λ w0 W0 c0 a w hm ⟨c,hle,hr⟩=>let ⟨c',h1,h2⟩:=zyw hr id p hp;⟨c',hle.trans h1,h2⟩
theorem zB3 {E:Env} {id:Nat} {ops:Array Oper} {dr:Bool} {s:St} {st:List Fm} (h:Gh E false id ops dr s st):Gh E true id ops dr s st:=zu2 s (Weak.refl _ _) h
end Go.TL

import Derived.Test.YteonagfnhdlfcaaGreatDoorTlConv
open Nat renaming add_assoc → qa, add_mul → qb
open List renaming getElem_mem → qc, map_append → qd, map_set → qe, take_of_length_le → qf, mem_of_mem_drop → qg, mem_of_mem_take → qh, getElem_take → qj, getElem_drop → qk, getElem_map → qm, not_mem_nil → qn, take_zero → qo, map_cons → qq, mem_cons → qr
open Bool renaming false_eq_true → qi, false_and → qp
open Option renaming getD_some → ql
set_option linter.unusedSimpArgs false
set_option linter.unusedVariables false
noncomputable section
namespace Go.TL
open Go
theorem zoc {E:Env} {b:Bool} {x y:Code} {d:Nat} {s:St} {st:List Fm} (c:Bool) (e:b=c) (h1:c=true→Bs E true x y d s st) (h2:c=false→Bs E false x y d s st):Bs E b x y d s st:=by
 subst e;exact zyS h1 h2
def zwR {σ ρ:Type} (Z:σ→St) (step:σ→Option (σ⊕ρ)) (y:ρ):Nat→St→Prop:=λ n s=>∃ g,Loops step n g y∧s=Z g
theorem zky {E:Env} {x:Code} {s:St} {st:List Fm} {σ ρ:Type} (Z:σ→St) (step:σ→Option (σ⊕ρ)) (y:ρ) (s0:σ) (h0:zkx step s0=some y) (hw:Weak E.m s (Z s0))
  (h:∀ n g z,step g=some z→LK step n z y→W E x (Z g) (.loop (zwR Z step y) n :: st)):W E (.loop x) s st:=by
 obtain ⟨n,hn⟩:=zpb h0
 rw [S.W_loop]
 refine ⟨zwR Z step y,n,⟨Z s0,hw,s0,hn,rfl⟩,λ n s hI=>?_⟩
 obtain ⟨g,hg,rfl⟩:=hI
 obtain ⟨z,h1,h2⟩:=hg.round
 exact h n g z h1 h2
theorem zkr {E:Env} {s:St} {st:List Fm} {σ ρ:Type} {Z:σ→St} {step:σ→Option (σ⊕ρ)} {y:ρ} {n:Nat} {s':σ} (hk:LK step n (.inl s') y) (hw:Weak E.m s (Z s')) :
  X E .normal s (.loop (zwR Z step y) n :: st):=by
 obtain ⟨m,hm,hl⟩:=hk
 rw [S.X_loop_n]
 exact ⟨_,hm,_,hw,s',hl,rfl⟩
attribute [irreducible] zwR
theorem zmc {E:Env} {g:FuncId} {caps args args1 args':List LV} {H1:HL} {nxr:Nat} {res:LV} {wd dst:Option Nat} {md:Md} {all:Array Oper} {r:List Oper} {s:St} {st:List Fm} (h:Fn E.P g args' [] 0 res H1 nxr)
  (h1:zlW [] (hp s.H) (args++caps)=some args1) (hf:FitAll args1 args') (h6:zli [] (hp s.H) (args++caps)=[]∨(zvE res=true∧∀ p∈H1,∀ o,p.2=some o→zmw o.2=true))
  (hK:R E (md.nx wd s.H (zl4 [] (hp s.H) s.nx H1 s.H)) all r (s.put dst (zpz [] s.nx res) (zl4 [] (hp s.H) s.nx H1 s.H) (s.nx+nxr)) st):Cl E (.fn g caps) args wd dst md all r s st:=by
 unfold Cl
 exact ⟨h.1,[],args',args1,[],res,H1,nxr,h1,hf,rfl,List.nodup_nil,λ i _ hi=>by simp at hi,h.2,h6,λ k hk=>by simp at hk,hK⟩
theorem zAD {E:Env} {g:FuncId} {caps args args1 args':List LV} {ids:List Nat} {H0 H1:HL} {nxr:Nat} {res:LV} {wd dst:Option Nat} {md:Md} {all:Array Oper} {r:List Oper} {s:St} {st:List Fm} (h:Fn E.P g args' H0 ids.length res H1 nxr)
  (h1:zlW ids (hp s.H) (args++caps)=some args1) (hf:FitAll args1 args') (h3:zmv ids (hp s.H) 0 ids=some H0) (h4:ids.Nodup) (h5:zli ids (hp s.H) (args++caps)=[]) (h7:(List.range ids.length).all (λ k=>(zkm H1 k).isSome)=true)
  (hK:R E (md.nx wd s.H (zl4 ids (hp s.H) s.nx H1 s.H)) all r (s.put dst (zpz ids s.nx res) (zl4 ids (hp s.H) s.nx H1 s.H) (s.nx+(nxr - ids.length))) st):Cl E (.fn g caps) args wd dst md all r s st:=by
 unfold Cl
 exact ⟨h.1,ids,args',args1,H0,res,H1,nxr,h1,hf,h3,h4,λ i hi=>by (rw [h5] at hi;simp at hi),h.2,.inl h5,λ k hk=>List.all_eq_true.1 h7 k (List.mem_range.2 hk),hK⟩
def mnE (f:Int→Int→Int):Option Value→Option Value→Option (Prop×LV)
 | some (.int k p),some (.int _ q)=>some (True,.lf false (.sc (.int k (f p q))))
 | _,_=>none
namespace S
@[go_sem] theorem zF8 (f:Int→Int→Int) (k k':IntKind) (p q:Int):mnE f (some (.int k p)) (some (.int k' q))=some (True,.lf false (.sc (.int k (f p q)))):=rfl
@[go_sem] theorem zEu (P:Program) (tab:Tab) (s:St) (x y:Operand) (t u:Nat):opE P tab s (.call { callee:=.builtin .min,args:=#[x,y],argTypes:=#[t,u] })=znZ s (mnE min (sc? (ev s.T x)) (sc? (ev s.T y))):=by
 simp only [opE,zlP,zmZ]
 unfold zmm mnE
 simp only
 rcases sc? (ev s.T x) with _ | (_ | _ | _ | _ | _ | _ | _ | _ | _ | _ | _ | _ | _ | _)<;>(try rfl)<;>rcases sc? (ev s.T y) with _ | (_ | _ | _ | _ | _ | _ | _ | _ | _ | _ | _ | _ | _ | _)<;>rfl
@[go_sem] theorem zEv (P:Program) (tab:Tab) (s:St) (x y:Operand) (t u:Nat):opE P tab s (.call { callee:=.builtin .max,args:=#[x,y],argTypes:=#[t,u] })=znZ s (mnE max (sc? (ev s.T x)) (sc? (ev s.T y))):=by
 simp only [opE,zlP,zmZ]
 unfold zmm mnE
 simp only
 rcases sc? (ev s.T x) with _ | (_ | _ | _ | _ | _ | _ | _ | _ | _ | _ | _ | _ | _ | _)<;>(try rfl)<;>rcases sc? (ev s.T y) with _ | (_ | _ | _ | _ | _ | _ | _ | _ | _ | _ | _ | _ | _ | _)<;>rfl
end S
abbrev Bd:=Option (IntKind×Int)
def zy4:Option Value→Option Bd
 | some (.int k n)=>some (some (k,n))
 | _=>none
def zv5 (l h:Bd) (b:ByteArray):Option (Prop×LV):=some (0≤zkA l∧zkA l≤zku h b.size∧zku h b.size≤b.size,.lf false (.sc (.string (b.extract (zkA l).toNat (zku h b.size).toNat))))
def zuW (l h:Bd) (tt:Bool) (rows:List (List Leaf)):Option TE→Option (Prop×LV)
 | some ee=>some ((0≤zkA l∧zkA l≤zku h rows.length∧zku h rows.length≤rows.length)∧(0 < zkA l→∀ r∈rows,r.length=ee.size),.lf tt (.sl ((rows.drop (zkA l).toNat).take ((zku h rows.length).toNat - (zkA l).toNat))))
 | none=>none
def zuX (l h:Bd) (id es o0 len mc:Nat) (ex:Bool):Option TE→Option (Prop×LV)
 | some ee=>if ee.size=es then some (0≤zkA l∧zkA l≤zku h len∧zku h len≤((max len mc:Nat):Int),.os id es (o0+(zkA l).toNat) ((zku h len).toNat - (zkA l).toNat) (max len mc - (zkA l).toNat) (ex || false)) else none
 | none=>none
def zBL (l h:Bd):Option TE→Option (Prop×LV)
 | some _=>some (zkA l=0∧zku h 0=0∧(0:Int)=0,.nl)
 | none=>none
def zv6 (tab:Tab) (l h:Bd):Option TE→LV→Option (Prop×LV)
 | some ⟨_,_,_,.str⟩,.lf _ (.sc (.string b))=>zv5 l h b
 | some ⟨_,_,_,.slice el⟩,.lf tt (.sl rows)=>zuW l h tt rows (zkm tab el)
 | some ⟨_,_,_,.slice el⟩,.os id es o0 len mc ex=>zuX l h id es o0 len mc ex (zkm tab el)
 | some ⟨_,_,_,.slice el⟩,.nl=>zBL l h (zkm tab el)
 | _,_=>none
namespace S
@[go_sem] theorem zFv (k:IntKind) (n:Int):zy4 (some (.int k n))=some (some (k,n)):=rfl
theorem zEw (T:List (Nat×LV)) (x:Operand):bnd T (some x)=zy4 (sc? (ev T x)):=by
 unfold bnd zy4
 simp only
 rcases sc? (ev T x) with _ | (_ | _ | _ | _ | _ | _ | _ | _ | _ | _ | _ | _ | _ | _)<;>rfl
def zBM (tab:Tab) (e:Option TE) (x:LV):Option Bd→Option Bd→Option (Prop×LV)
 | some l,some h=>zv6 tab l h e x
 | _,_=>none
@[go_sem] theorem zFw (tab:Tab) (e:Option TE) (x:LV) (l h:Bd):zBM tab e x (some l) (some h)=zv6 tab l h e x:=rfl
def bdO (T:List (Nat×LV)):Option Operand→Option Bd
 | none=>some none
 | some x=>zy4 (sc? (ev T x))
theorem zr2 (T:List (Nat×LV)) (x:Option Operand):bnd T x=bdO T x:=by
 cases x with
 | none=>rfl
 | some x=>exact zEw T x
@[go_sem] theorem zFx (T:List (Nat×LV)):bdO T none=some none:=rfl
@[go_sem] theorem zFy (T:List (Nat×LV)) (x:Operand):bdO T (some x)=zy4 (sc? (ev T x)):=rfl
@[go_sem] theorem zF9:zkA none=0:=rfl
@[go_sem] theorem zGa (k:IntKind) (n:Int):zkA (some (k,n))=n:=rfl
@[go_sem] theorem zGb (n:Int):zku none n=n:=rfl
@[go_sem] theorem zGc (k:IntKind) (n m:Int):zku (some (k,n)) m=n:=rfl
@[go_sem] theorem zEx (tab:Tab) (l h:Bd) (a b:Nat) (z:List Value) (t:Bool) (x:ByteArray):zv6 tab l h (some ⟨a,b,z,.str⟩) (.lf t (.sc (.string x)))=zv5 l h x:=rfl
@[go_sem] theorem zFz (tab:Tab) (l h:Bd) (a b:Nat) (z:List Value) (el:Nat) (t:Bool) (rows:List (List Leaf)):zv6 tab l h (some ⟨a,b,z,.slice el⟩) (.lf t (.sl rows))=zuW l h t rows (zkm tab el):=rfl
@[go_sem] theorem zFA (tab:Tab) (l h:Bd) (a b:Nat) (z:List Value) (el id es o0 len mc:Nat) (ex:Bool):zv6 tab l h (some ⟨a,b,z,.slice el⟩) (.os id es o0 len mc ex)=zuX l h id es o0 len mc ex (zkm tab el):=rfl
@[go_sem] theorem zFB (l h:Bd) (b:ByteArray):zv5 l h b=some (0≤zkA l∧zkA l≤zku h b.size∧zku h b.size≤b.size,.lf false (.sc (.string (b.extract (zkA l).toNat (zku h b.size).toNat)))):=rfl
@[go_sem] theorem zGd (l h:Bd) (tt:Bool) (rows:List (List Leaf)) (ee:TE):zuW l h tt rows (some ee)=some ((0≤zkA l∧zkA l≤zku h rows.length∧zku h rows.length≤rows.length)∧(0 < zkA l→∀ r∈rows,r.length=ee.size),.lf tt (.sl ((rows.drop (zkA l).toNat).take ((zku h rows.length).toNat - (zkA l).toNat)))):=rfl
@[go_sem] theorem zGe (l h:Bd) (id es o0 len mc:Nat) (ex:Bool) (a b:Nat) (z:List Value) (sh:Sh):zuX l h id es o0 len mc ex (some ⟨a,b,z,sh⟩)=if a=es then some (0≤zkA l∧zkA l≤zku h len∧zku h len≤((max len mc:Nat):Int),.os id es (o0+(zkA l).toNat) ((zku h len).toNat - (zkA l).toNat) (max len mc - (zkA l).toNat) (ex || false)) else none:=rfl
@[go_sem] theorem zFC (P:Program) (tab:Tab) (s:St) (t:Nat) (x:Operand) (lo hi:Option Operand):opE P tab s (.slice t x lo hi none)=znZ s (zBM tab (zkm tab t) (ev s.T x) (bdO s.T lo) (bdO s.T hi)):=by
 rw [zwL]
 refine congrArg _ ?_
 unfold zvS
 rw [zr2,zr2,show bnd s.T none=some none from rfl]
 cases bdO s.T lo with
 | none=>rfl
 | some l =>
  cases bdO s.T hi with
  | none=>rfl
  | some h =>
   cases zkm tab t with
   | none=>rfl
   | some e =>
    obtain ⟨a,b,z,sh⟩:=e
    cases sh<;>(try rfl)
    ·generalize ev s.T x=v
     rcases v with _ | ⟨_,_ | _⟩ | _ | _ | _ | _ | _ | _ | _ | _<;>(try rfl)
     rename_i v
     cases v<;>rfl
    ·rename_i el
     simp only [zBM]
     generalize ev s.T x=v
     cases hee:zkm tab el with
     | none =>
      rcases v with _ | ⟨_,_ | _⟩ | _ | _ | _ | _ | _ | _ | _ | _<;>(simp only [zv6,zuW,zuX,hee])<;>rfl
     | some ee =>
      have hno:¬ (h.map (·.2)=some 0∧(none:Bd).map (·.2)=some 0∧lo.isNone=true):=λ hh=>by cases hh.2.1
      rcases v with _ | ⟨_,_ | _⟩ | _ | _ | _ | _ | _ | _ | _ | _<;>simp only [hee,if_neg hno,zv6,zuW,zuX]<;>(try rfl)
      rename_i len mc ex
      have hm:max (len:Int) mc=((max len mc:Nat):Int):=by omega
      have hn:zku (none:Bd) ((max len mc:Nat):Int)=((max len mc:Nat):Int):=rfl
      simp [hm,hn]
def zwS (tab:Tab) (e:Option TE) (x:LV) (l h m:Option Bd):Option (Prop×LV):=match l,h,m,e with
 | some l,some h,some m,some e=>match e.sh with
  | .slice el=>match zkm tab el with
   | some ee=>match x with
    | .os id es o0 len mc ex=>if ee.size=es∧(m.isSome=true→h.isSome=true) then some (0≤zkA l∧zkA l≤zku h len∧zku h len≤zku m ((max (len:Int) mc))∧zku m ((max (len:Int) mc))≤((max len mc:Nat):Int),
      .os id es (o0+(zkA l).toNat) ((zku h len).toNat - (zkA l).toNat) ((zku m ((max (len:Int) mc))).toNat - (zkA l).toNat) (ex || m.isSome)) else none
    | .nl=>if m.isSome=true→h.isSome=true then some (zkA l=0∧zku h 0=0∧zku m 0=0,.nl) else none
    | _=>none
   | none=>none
  | _=>none
 | _,_,_,_=>none
def zv7 (l:Bd) (k k':IntKind) (n n':Int) (id es o0 len mc:Nat) (ex:Bool):Option TE→Option (Prop×LV)
 | some ee=>if ee.size=es then some (0≤zkA l∧zkA l≤n∧n≤n'∧n'≤((max len mc:Nat):Int),.os id es (o0+(zkA l).toNat) (n.toNat - (zkA l).toNat) (n'.toNat - (zkA l).toNat) (ex || true)) else none
 | none=>none
@[go_sem] theorem zFD (tab:Tab) (l:Bd) (k k':IntKind) (n n':Int) (a b:Nat) (z:List Value) (el id es o0 len mc:Nat) (ex:Bool):zwS tab (some ⟨a,b,z,.slice el⟩) (.os id es o0 len mc ex) (some l) (some (some (k,n))) (some (some (k',n')))=zv7 l k k' n n' id es o0 len mc ex (zkm tab el):=by
 unfold zwS zv7
 simp only
 cases zkm tab el with
 | none=>rfl
 | some ee =>
  have hm:max (len:Int) mc=((max len mc:Nat):Int):=by omega
  simp only [Option.isSome,true_implies,and_true,hm]
  rfl
@[go_sem] theorem zFE (l:Bd) (k k':IntKind) (n n':Int) (id es o0 len mc:Nat) (ex:Bool) (a b:Nat) (z:List Value) (sh:Sh):zv7 l k k' n n' id es o0 len mc ex (some ⟨a,b,z,sh⟩)=if a=es then some (0≤zkA l∧zkA l≤n∧n≤n'∧n'≤((max len mc:Nat):Int),.os id es (o0+(zkA l).toNat) (n.toNat - (zkA l).toNat) (n'.toNat - (zkA l).toNat) (ex || true)) else none:=rfl
def zCj (l:Bd) (n n':Int):Option TE→Option (Prop×LV)
 | some _=>some (zkA l=0∧n=0∧n'=0,.nl)
 | none=>none
@[go_sem] theorem zGf (l:Bd) (n n':Int) (ee:TE):zCj l n n' (some ee)=some (zkA l=0∧n=0∧n'=0,.nl):=rfl
@[go_sem] theorem zEy (P:Program) (tab:Tab) (s:St) (t:Nat) (x lo mx:Operand) (hi:Option Operand):opE P tab s (.slice t x (some lo) hi (some mx))=znZ s (zwS tab (zkm tab t) (ev s.T x) (bdO s.T (some lo)) (bdO s.T hi) (bdO s.T (some mx))):=by
 rw [zwL]
 refine congrArg _ ?_
 unfold zvS zwS
 rw [zr2,zr2,zr2]
 cases bdO s.T (some lo) with
 | none=>rfl
 | some l =>
  cases bdO s.T hi with
  | none=>rfl
  | some h =>
   cases bdO s.T (some mx) with
   | none=>rfl
   | some m =>
    cases zkm tab t with
    | none=>rfl
    | some e =>
     obtain ⟨a,b,z,sh⟩:=e
     cases sh<;>(try rfl)
     ·generalize ev s.T x=v
      simp only
      cases sc? v with
      | none=>rfl
      | some u=>cases u<;>rfl
     ·rename_i el
      simp only
      generalize ev s.T x=v
      cases hee:zkm tab el with
      | none=>rfl
      | some ee =>
       have hno:¬ (h.map (·.2)=some 0∧m.map (·.2)=some 0∧(some lo).isNone=true):=λ hh=>by cases hh.2.2
       simp only [if_neg hno]
       rcases v with _ | ⟨_,_ | _⟩ | _ | _ | _ | _ | _ | _ | _ | _<;>rfl
end S
def zpo (id:Nat) (t:Bool) (es:Nat) (rows:List (List Leaf)):LV→LV
 | .os id' es' lo len mc ex=>if id'=id∧es'=es∧lo+len≤rows.length then .lf t (.sl ((rows.drop lo).take len)) else .os id' es' lo len mc ex
 | lv=>lv
def zo0 (id:Nat) (t:Bool) (es:Nat) (rows:List (List Leaf)):LV→LV
 | .ag ls=>.ag (ls.map (zpo id t es rows))
 | lv=>zpo id t es rows lv
def znN (id:Nat) (t:Bool) (es:Nat) (rows:List (List Leaf)):Option (Bool×Ob)→Option (Bool×Ob)
 | some (fr,.box ls)=>some (fr,.box (ls.map (zpo id t es rows)))
 | o=>o
def St.frzA (s:St) (id:Nat):Option (Bool×Ob)→St
 | some (true,.arr t es rows)=>⟨s.T.map λ p=>(p.1,zo0 id t es rows p.2),(id,none) :: s.H.map λ p=>(p.1,znN id t es rows p.2),s.nx,s.nt⟩
 | some (true,.deep ss rows)=>⟨s.T.map λ p=>(p.1,zo0 id false ss.length rows p.2),(id,none) :: s.H.map λ p=>(p.1,znN id false ss.length rows p.2),s.nx,s.nt⟩
 | _=>s
def St.frz (s:St) (id:Nat):St:=s.frzA id (hp s.H id)
section
variable {w0 w:World} {W0:Fr} {c:Ctx} {H:zkO}
theorem zBN (s:Sit w0 W0 c H w) {id es lo len mc:Nat} {ex t:Bool} {rows:List (List Leaf)} {v:Value} (ho:H id=some (true,.arr t es rows)) (hl:lo+len≤rows.length) (hc:Cv w c (.os id es lo len mc ex) v) :
  Cv w (c.freeze id) (.lf t (.sl ((rows.drop lo).take len))) v:=by
 cases hc with
 | os hid hlc hm hx ha hn =>
  rename_i cap a
  obtain ⟨g1,g0,g2,g3⟩:Holds w c (c.loc id) (.arr t es rows):=(s.own id _ ho).2
  refine .lf ?_
  by_cases hz:len=0
  ·subst hz
   rw [qo]
   exact .nil
  ·rcases ha with h0 | rfl
   ·omega
   have hrows:((rows.drop lo).take len).length=len:=by simp;omega
   have:=@RepL.sl w ((c.freeze id).fs t) (c.loc id).b ((c.loc id).base+lo * es) cap es ((rows.drop lo).take len)
    (λ i j=>(w.cell? ⟨(c.loc id).b,(c.loc id).base+lo * es+(i * es+j),none⟩).getD undef)
    (λ r hr=>g0 r (qg (qh hr))) (by omega)
    (λ i j hi hj=>by
     have h1:=zk1 (es:=es) (i:=lo+i) (j:=j) (n:=rows.length) (by omega) hj
     rw [qb] at h1
     refine ⟨.inl (.inr (.inl ⟨rfl,by omega⟩)),?_⟩
     obtain ⟨u,hu,_⟩:=g2 (lo * es+(i * es+j)) (by omega)
     rw [← qa] at hu
     rw [hu];rfl)
    (λ i j hi hj=>by
     have hi':lo+i < rows.length:=by omega
     have hj':j < es:=by rw [← g0 _ (qc hi')];simpa using hj
     have h1:=zk1 (es:=es) (i:=lo+i) (j:=j) (n:=rows.length) hi' hj'
     rw [qb] at h1
     obtain ⟨u,hu,_⟩:=g2 (lo * es+(i * es+j)) (by omega)
     have h3:=g3 (lo+i) j hi' (by rw [g0 _ (qc hi')];exact hj') u (by rw [qb,qa];exact hu)
     rw [← qa] at hu
     simp only [qj,qk,hu,ql]
     exact h3.mono ((c.le_freeze id).fs t) λ _ _ _=>rfl)
   rw [hrows] at this
   exact this
theorem zAE (s:Sit w0 W0 c H w) {id lo len mc:Nat} {ex:Bool} {ss:List DSh} {rows:List (List Leaf)} {v:Value} (ho:H id=some (true,.deep ss rows)) (hl:lo+len≤rows.length) (hc:Cv w c (.os id ss.length lo len mc ex) v) :
  Cv w (c.freeze id) (.lf false (.sl ((rows.drop lo).take len))) v:=by
 cases hc with
 | os hid hlc hm hx ha hn =>
  rename_i cap a
  obtain ⟨g1,g0,g2,B,hB,hd,g3⟩:Holds w c (c.loc id) (.deep ss rows):=(s.own id _ ho).2
  refine .lf ?_
  by_cases hz:len=0
  ·subst hz
   rw [qo]
   exact .nil
  ·rcases ha with h0 | rfl
   ·omega
   have hrows:((rows.drop lo).take len).length=len:=by simp;omega
   have:=@RepL.sl w ((c.freeze id).fs false) (c.loc id).b ((c.loc id).base+lo * ss.length) cap ss.length ((rows.drop lo).take len)
    (λ i j=>(w.cell? ⟨(c.loc id).b,(c.loc id).base+lo * ss.length+(i * ss.length+j),none⟩).getD undef)
    (λ r hr=>g0 r (qg (qh hr))) (by omega)
    (λ i j hi hj=>by
     have h1:=zk1 (es:=ss.length) (i:=lo+i) (j:=j) (n:=rows.length) (by omega) hj
     rw [qb] at h1
     refine ⟨.inl (.inr (.inl ⟨rfl,by omega⟩)),?_⟩
     obtain ⟨u,hu,_⟩:=g2 (lo * ss.length+(i * ss.length+j)) (by omega)
     rw [← qa] at hu
     rw [hu];rfl)
    (λ i j hi hj=>by
     have hi':lo+i < rows.length:=by omega
     have hj':j < ss.length:=by rw [← g0 _ (qc hi')];simpa using hj
     have h1:=zk1 (es:=ss.length) (i:=lo+i) (j:=j) (n:=rows.length) hi' hj'
     rw [qb] at h1
     obtain ⟨u,hu,_⟩:=g2 (lo * ss.length+(i * ss.length+j)) (by omega)
     have h3:=g3 (lo+i) j hi' (by rw [g0 _ (qc hi')];exact hj') hj' u (by rw [qb,qa];exact hu)
     rw [← qa] at hu
     simp only [qj,qk,hu,ql]
     exact h3.rep λ b k hb=>.inl (.inr (.inr (hB _ _ _ hb).1)))
   rw [hrows] at this
   exact this
def zy5 (w:World) (c:Ctx) (id:Nat) (t:Bool) (es:Nat) (rows:List (List Leaf)):Prop:=∀ lo len mc ex v,lo+len≤rows.length→Cv w c (.os id es lo len mc ex) v→Cv w (c.freeze id) (.lf t (.sl ((rows.drop lo).take len))) v
theorem ztY {id es:Nat} {t:Bool} {rows:List (List Leaf)} (ho:zy5 w c id t es rows) {lv:LV} {v:Value} (hc:Cv w c lv v):Cv w (c.freeze id) (zpo id t es rows lv) v:=by
 unfold zpo
 split
 ·split
  ·rename_i h
   obtain ⟨rfl,rfl,h⟩:=h
   exact ho _ _ _ _ _ h hc
  ·exact hc.mono (c.le_freeze id) (.refl c w)
 ·exact hc.mono (c.le_freeze id) (.refl c w)
theorem zAF {id es:Nat} {t:Bool} {rows:List (List Leaf)} (ho:zy5 w c id t es rows) {lv:LV} {v:Value} (hc:Cv w c lv v):Cv w (c.freeze id) (zo0 id t es rows lv) v:=by
 unfold zo0
 split
 ·cases hc with
  | ag cs hn hv h =>
   refine .ag cs (by simpa using hn) (λ j hj=>hv j (by simpa using hj)) λ j hj=>?_
   rw [qm]
   exact ztY ho (h j (by simpa using hj))
 ·exact ztY ho hc
end
theorem zBO (f:LV→LV) (hf:f .un=.un) (T:List (Nat×LV)) (i:Nat):tv (T.map λ p=>(p.1,f p.2)) i=f (tv T i):=by
 unfold tv
 induction T with
 | nil=>exact hf.symm
 | cons p r ih =>
  obtain ⟨k,x⟩:=p
  simp only [qq,zkm]
  split
  ·rfl
  ·exact ih
theorem zBP (f:Option (Bool×Ob)→Option (Bool×Ob)) (hf:f none=none) (H:HL) (i:Nat):hp (H.map λ p=>(p.1,f p.2)) i=f (hp H i):=by
 unfold hp
 induction H with
 | nil=>exact hf.symm
 | cons p r ih =>
  obtain ⟨k,x⟩:=p
  simp only [qq,zkm]
  split
  ·rfl
  ·exact ih
theorem zwT {w0 w:World} {W0:Fr} {c c0:Ctx} {s:St} {a:Act} (hle:c0.Le c) (hr:Rel w0 W0 c s a w) {id es:Nat} {t:Bool} {rows:List (List Leaf)} {o:Ob} (ho:hp s.H id=some (true,o)) (hf:zy5 w c id t es rows) :
  Rl w0 W0 c0 ⟨s.T.map λ p=>(p.1,zo0 id t es rows p.2),(id,none) :: s.H.map λ p=>(p.1,znN id t es rows p.2),s.nx,s.nt⟩ a w:=by
 have hsit:=hr.sit.freeze ho
 refine ⟨c.freeze id,hle.trans (c.le_freeze id),?_,hr.nx,λ i=>?_,hr.sz,hr.df⟩
 ·have hH:∀ i o,hp ((id,none) :: s.H.map λ p=>(p.1,znN id t es rows p.2)) i=some o→∃ o',TL.upd (hp s.H) id none i=some (o.1,o')∧(∀ L,Holds w c L o'→Holds w (c.freeze id) L o.2)∧(zpq o'=true→zpq o.2=true):=by
   intro i o h
   rw [zkD] at h
   by_cases e:i=id
   ·subst e;rw [zlf] at h;cases h
   ·rw [zle _ _ e,zBP _ rfl] at h
    rw [zle _ _ e]
    cases hx:hp s.H i with
    | none=>rw [hx] at h;cases h
    | some o1 =>
     obtain ⟨fr,o1⟩:=o1
     rw [hx] at h
     cases o1 with
     | box ls =>
      simp only [znN] at h
      cases h
      refine ⟨.box ls,rfl,λ L hh=>?_,λ x=>(by cases x)⟩
      obtain ⟨g1,g2,g3⟩:=hh
      exact ⟨by simpa using g1,g2,λ j hj v hv=>by
       simp only [qm]
       exact ztY hf (g3 j (by simpa using hj) v hv)⟩
     | arr t' es' rows' =>
      simp only [znN] at h
      cases h
      exact ⟨_,rfl,λ L hh=>hh.mono (c.le_freeze id) (.refl c w) λ _ _ _=>⟨rfl,rfl⟩,λ x=>x⟩
     | deep ss' rows' =>
      simp only [znN] at h
      cases h
      exact ⟨_,rfl,λ L hh=>hh.mono (c.le_freeze id) (.refl c w) λ _ _ _=>⟨rfl,rfl⟩,λ x=>x⟩
     | foc ss' rows' p' ks' =>
      simp only [znN] at h
      cases h
      exact ⟨_,rfl,λ L hh=>hh.mono (c.le_freeze id) (.refl c w) λ _ _ _=>⟨rfl,rfl⟩,λ x=>x⟩
  refine ⟨hsit.keep,λ i o h=>?_,λ i j oi oj hi hj hij=>?_,λ i o h=>?_,hsit.old,hsit.new,λ b k v he=>?_,λ i o h=>?_,λ i o h x hx=>?_⟩
  ·obtain ⟨o',h1,h2,_⟩:=hH i o h
   have hne:i≠id:=λ e=>by subst e;rw [zlf] at h1;cases h1
   rw [zle _ _ hne] at h1
   exact ⟨(hr.sit.own i _ h1).1,h2 _ (hr.sit.own i _ h1).2⟩
  ·obtain ⟨_,h1,_⟩:=hH i oi hi
   obtain ⟨_,h2,_⟩:=hH j oj hj
   exact hsit.dis i j _ _ h1 h2 hij
  ·obtain ⟨o',h1,_⟩:=hH i o h
   have:=hsit.sep i _ h1
   exact this
  ·obtain ⟨r1,r2,r3,r4,r5⟩:=hsit.res b k v he
   exact ⟨r1,r2,r3,r4,λ i o h=>by
    obtain ⟨o',h1,_⟩:=hH i o h
    exact r5 i _ h1⟩
  ·obtain ⟨o',h1,_⟩:=hH i o h
   have:=hsit.pl i _ h1
   exact this
  ·obtain ⟨o',h1,_,h2⟩:=hH i o h
   have:=hsit.mo i _ h1 x hx
   exact ⟨this.1,h2 this.2⟩
 ·show Cv w (c.freeze id) (tv (s.T.map λ p=>(p.1,zo0 id t es rows p.2)) i) _
  rw [zBO _ rfl]
  exact zAF hf (hr.tmp i)
theorem zy6 {m:Nat} {s:St} (id:Nat):Weak m s (s.frz id):=by
 intro w0 W0 c0 a w hm ⟨c,hle,hr⟩
 unfold St.frz
 unfold St.frzA
 split
 ·rename_i t es rows ho
  exact zwT hle hr ho λ lo len mc ex v h1 h2=>zBN hr.sit ho h1 h2
 ·rename_i ss rows ho
  exact zwT hle hr ho λ lo len mc ex v h1 h2=>zAE hr.sit ho h1 h2
 ·exact ⟨c,hle,hr⟩
theorem zk6 {tab:Tab} {m:Nat} {rs:List ResultVar} {res:LV} {H1:HL} {nxr:Nat} {e:Exit} {s:St} (id:Nat) (h:zoF tab m rs res H1 nxr e (s.frz id)):zoF tab m rs res H1 nxr e s:=by
 unfold zoF at h ⊢
 obtain ⟨s2,hw,hE⟩:=h
 exact ⟨s2,(zy6 id).trans hw,hE⟩
namespace S
@[go_sem] theorem zGg (T:List (Nat×LV)) (H:HL) (nx nt id:Nat):St.frz ⟨T,H,nx,nt⟩ id=St.frzA ⟨T,H,nx,nt⟩ id (hp H id):=rfl
@[go_sem] theorem zFF (T:List (Nat×LV)) (H:HL) (nx nt id:Nat) (t:Bool) (es:Nat) (rows:List (List Leaf)):St.frzA ⟨T,H,nx,nt⟩ id (some (true,.arr t es rows)) =
 ⟨T.map λ p=>(p.1,zo0 id t es rows p.2),(id,none) :: H.map λ p=>(p.1,znN id t es rows p.2),nx,nt⟩:=rfl
@[go_sem] theorem zFG (id:Nat) (t:Bool) (es:Nat) (rows:List (List Leaf)) (id' es' lo len mc:Nat) (ex:Bool):zpo id t es rows (.os id' es' lo len mc ex)=if id'=id∧es'=es∧lo+len≤rows.length then .lf t (.sl ((rows.drop lo).take len)) else .os id' es' lo len mc ex:=rfl
@[go_sem] theorem zFH (id:Nat) (t:Bool) (es:Nat) (rows:List (List Leaf)) (t':Bool) (l:Leaf):zpo id t es rows (.lf t' l)=.lf t' l:=rfl
@[go_sem] theorem zFJ (id:Nat) (t:Bool) (es:Nat) (rows:List (List Leaf)):zpo id t es rows .nl=.nl:=rfl
@[go_sem] theorem zFK (id:Nat) (t:Bool) (es:Nat) (rows:List (List Leaf)):zpo id t es rows .un=.un:=rfl
@[go_sem] theorem zFL (id:Nat) (t:Bool) (es:Nat) (rows:List (List Leaf)) (k off:Nat):zpo id t es rows (.pb k off)=.pb k off:=rfl
@[go_sem] theorem zFM (id:Nat) (t:Bool) (es:Nat) (rows:List (List Leaf)) (k e i off:Nat):zpo id t es rows (.pe k e i off)=.pe k e i off:=rfl
@[go_sem] theorem zFN (id:Nat) (t:Bool) (es:Nat) (rows:List (List Leaf)) (t':Bool) (ls:List Leaf):zpo id t es rows (.ra t' ls)=.ra t' ls:=rfl
@[go_sem] theorem zFO (id:Nat) (t:Bool) (es:Nat) (rows:List (List Leaf)) (ls:List LV):zpo id t es rows (.tu ls)=.tu ls:=rfl
@[go_sem] theorem zFP (id:Nat) (t:Bool) (es:Nat) (rows:List (List Leaf)) (ls:List LV):zo0 id t es rows (.ag ls)=.ag (ls.map (zpo id t es rows)):=rfl
@[go_sem] theorem zFQ (id:Nat) (t:Bool) (es:Nat) (rows:List (List Leaf)) (id' es' lo len mc:Nat) (ex:Bool):zo0 id t es rows (.os id' es' lo len mc ex)=zpo id t es rows (.os id' es' lo len mc ex):=rfl
@[go_sem] theorem zFR (id:Nat) (t:Bool) (es:Nat) (rows:List (List Leaf)) (t':Bool) (l:Leaf):zo0 id t es rows (.lf t' l)=.lf t' l:=rfl
@[go_sem] theorem zFS (id:Nat) (t:Bool) (es:Nat) (rows:List (List Leaf)):zo0 id t es rows .nl=.nl:=rfl
@[go_sem] theorem zFT (id:Nat) (t:Bool) (es:Nat) (rows:List (List Leaf)):zo0 id t es rows .un=.un:=rfl
@[go_sem] theorem zFU (id:Nat) (t:Bool) (es:Nat) (rows:List (List Leaf)) (k off:Nat):zo0 id t es rows (.pb k off)=.pb k off:=rfl
@[go_sem] theorem zFV (id:Nat) (t:Bool) (es:Nat) (rows:List (List Leaf)) (k e i off:Nat):zo0 id t es rows (.pe k e i off)=.pe k e i off:=rfl
@[go_sem] theorem zFW (id:Nat) (t:Bool) (es:Nat) (rows:List (List Leaf)) (t':Bool) (ls:List Leaf):zo0 id t es rows (.ra t' ls)=.ra t' ls:=rfl
@[go_sem] theorem zFX (id:Nat) (t:Bool) (es:Nat) (rows:List (List Leaf)) (ls:List LV):zo0 id t es rows (.tu ls)=.tu ls:=rfl
@[go_sem] theorem zEz (id:Nat) (t:Bool) (es:Nat) (rows:List (List Leaf)) (fr:Bool) (ls:List LV):znN id t es rows (some (fr,.box ls))=some (fr,.box (ls.map (zpo id t es rows))):=rfl
@[go_sem] theorem zEA (id:Nat) (t:Bool) (es:Nat) (rows:List (List Leaf)) (fr:Bool) (t':Bool) (es':Nat) (rows':List (List Leaf)):znN id t es rows (some (fr,.arr t' es' rows'))=some (fr,.arr t' es' rows'):=rfl
@[go_sem] theorem zDp (id:Nat) (t:Bool) (es:Nat) (rows:List (List Leaf)):znN id t es rows none=none:=rfl
@[go_sem] theorem zEB (T:List (Nat×LV)) (H:HL) (nx nt id:Nat) (ss:List DSh) (rows:List (List Leaf)):St.frzA ⟨T,H,nx,nt⟩ id (some (true,.deep ss rows)) =
 ⟨T.map λ p=>(p.1,zo0 id false ss.length rows p.2),(id,none) :: H.map λ p=>(p.1,znN id false ss.length rows p.2),nx,nt⟩:=rfl
@[go_sem] theorem zDq (id:Nat) (t:Bool) (es:Nat) (rows:List (List Leaf)) (fr:Bool) (ss:List DSh) (rows':List (List Leaf)):znN id t es rows (some (fr,.deep ss rows'))=some (fr,.deep ss rows'):=rfl
@[go_sem] theorem zDr {α β:Type} (l:List α) (e:α→β) (a b:β):(l.map e++[a]).set l.length b=l.map e++[b]:=by rw [List.set_append_right _ _ (by simp)];simp
end S
section
variable {α:Type} {f:α→List Leaf} {l:List α} {n:Nat}
theorem zAG:(l.map f).take l.length=l.map f:=qf (by simp)
theorem zmq {k:Nat} (h:∀ x,(f x).length=k):∀ r∈l.map f,r.length=k:=by
 intro r hr
 obtain ⟨x,_,rfl⟩:=List.mem_map.1 hr
 exact h x
theorem toNat_lt {i:Int} {n:Nat} (h:0≤i∧i < (n:Int)):i.toNat < n:=by omega
theorem zCk:(l.map f).take n=(l.take n).map f:=List.map_take.symm
theorem zCl:(l.map f).drop n=(l.drop n).map f:=List.map_drop.symm
theorem zEC {l':List α}:l.map f++l'.map f=(l++l').map f:=List.map_append.symm
theorem zxy {l:List α}:(l.drop n).take (l.length - n)=l.drop n:=qf (by simp)
end
theorem wI_ (n:Int):IntKind.i64.wrap n=wI n:=by
 unfold IntKind.wrap wI
 simp only [IntKind.bits,IntKind.signed,Bool.true_and,decide_eq_true_eq,ge_iff_le]
 rfl
theorem wU_ (n:Int):IntKind.u64.wrap n=wU n:=by
 unfold IntKind.wrap wU
 simp only [IntKind.bits,IntKind.signed,qp,qi,if_false]
 rfl
theorem wB_ (n:Int):IntKind.u8.wrap n=wB n:=by
 unfold IntKind.wrap wB
 simp only [IntKind.bits,IntKind.signed,qp,qi,if_false]
 rfl
attribute [go_sem] zy3 zAG zCk zCl zEC List.drop_zero Nat.sub_zero zAC List.take_length wI_ wU_ wB_ zxy
theorem zy7:∀ a b:List UInt8,Op.bytesLess a b=zlc a b
 | _,[]=>by cases ‹List UInt8›<;>rfl
 | [],_ :: _=>rfl
 | a :: r,b :: q=>by simp only [Op.bytesLess,zlc,zy7 r q]
theorem zED (a b:ByteArray):Op.bytesLess a.toList b.toList=sLt a b:=zy7 _ _
def zsQ:List LV→Nat→Option Value
 | [],_=>none
 | x :: _,0=>sc? x
 | _ :: r,n+1=>zsQ r n
theorem ztZ:∀ (l:List LV) (n:Nat),(l[n]?).bind sc?=zsQ l n
 | [],_=>by simp [zsQ]
 | x :: _,0=>by simp [zsQ]
 | _ :: r,n+1=>by simp only [List.getElem?_cons_succ,zsQ];exact ztZ r n
def eqC (e:Option TE) (x y:Option Value) (b:Option Bool):Option Bool:=match e,x,y,b with
 | some e,some x,some y,some b=>match e.sh,x,y with
  | .int _,.int k a,.int k' a'=>if k=k' then some ((a == a') && b) else none
  | .bool,.bool p,.bool q=>some ((p == q) && b)
  | .str,.string p,.string q=>some ((p.toList == q.toList) && b)
  | _,_,_=>none
 | _,_,_,_=>none
def eqR (P:Program) (t:Nat) (op:BinOp) (x:Option Bool):Option (Prop×LV):=match x,op with
 | some b,.eql=>some (EqT P t,.lf false (.sc (.bool b)))
 | some b,.neq=>some (EqT P t,.lf false (.sc (.bool (!b))))
 | _,_=>none
def eqG (P:Program) (tab:Tab) (t:Nat) (op:BinOp) (xs ys:List LV) (e:Option TE):Option (Prop×LV):=match e with
 | some e=>match e.sh with
  | .struct fs=>eqR P t op (zsG tab fs xs ys)
  | _=>none
 | none=>none
namespace S
@[go_sem] theorem zEE (x:LV) (r:List LV):zsQ (x :: r) 0=sc? x:=rfl
@[go_sem] theorem zEF (x:LV) (r:List LV) (n:Nat):zsQ (x :: r) (n+1)=zsQ r n:=rfl
@[go_sem] theorem zCm (tab:Tab) (xs ys:List LV):zsG tab [] xs ys=some true:=rfl
@[go_sem] theorem zB6 (tab:Tab) (ft fo:Nat) (r:List (Nat×Nat)) (xs ys:List LV):zsG tab ((ft,fo) :: r) xs ys=eqC (zkm tab ft) (zsQ xs fo) (zsQ ys fo) (zsG tab r xs ys):=by
 rw [← ztZ,← ztZ];rfl
@[go_sem] theorem zDs (a b:Nat) (z:List Value) (k0 k:IntKind) (x y:Int) (q:Bool):eqC (some ⟨a,b,z,.int k0⟩) (some (.int k x)) (some (.int k y)) (some q)=some ((x == y) && q):=by simp [eqC]
@[go_sem] theorem zCn (a b:Nat) (z:List Value) (x y q:Bool):eqC (some ⟨a,b,z,.bool⟩) (some (.bool x)) (some (.bool y)) (some q)=some ((x == y) && q):=rfl
@[go_sem] theorem zDt (a b:Nat) (z:List Value) (x y:ByteArray) (q:Bool):eqC (some ⟨a,b,z,.str⟩) (some (.string x)) (some (.string y)) (some q)=some ((x.toList == y.toList) && q):=rfl
@[go_sem] theorem zGh (P:Program) (tab:Tab) (t:Nat) (op:BinOp) (xs ys:List LV) (a b:Nat) (z:List Value) (fs:List (Nat×Nat)):eqG P tab t op xs ys (some ⟨a,b,z,.struct fs⟩)=eqR P t op (zsG tab fs xs ys):=rfl
@[go_sem] theorem zDu (P:Program) (t:Nat) (b:Bool):eqR P t .eql (some b)=some (EqT P t,.lf false (.sc (.bool b))):=rfl
@[go_sem] theorem zDv (P:Program) (t:Nat) (b:Bool):eqR P t .neq (some b)=some (EqT P t,.lf false (.sc (.bool (!b)))):=rfl
end S
namespace S
@[go_sem] theorem zEG (k:IntKind) (a b:Int):bin .shr (.int .u64 a) (.int k b)=some (.int .u64 (shR 64 a b)):=rfl
@[go_sem] theorem zEH (k:IntKind) (a b:Int):bin .shr (.int .i64 a) (.int k b)=some (.int .i64 (shR 64 a b)):=rfl
@[go_sem] theorem zEJ (a b:Int):bin .and (.int .u64 a) (.int .u64 b)=some (.int .u64 (wU (zqY 64 a b))):=by rw [← wU_];rfl
end S
def eI (x:Int):List Leaf:=[.sc (.int .i64 x)]
def zEK (x:Int):List Leaf:=[.sc (.int .u64 x)]
def eU8 (x:Int):List Leaf:=[.sc (.int .u8 x)]
def eB (x:Bool):List Leaf:=[.sc (.bool x)]
def eS (x:ByteArray):List Leaf:=[.sc (.string x)]
@[go_sem] theorem eI_ (x:Int):eI x=[.sc (.int .i64 x)]:=rfl
@[go_sem] theorem zFY (x:Int):zEK x=[.sc (.int .u64 x)]:=rfl
@[go_sem] theorem zGi (x:Int):eU8 x=[.sc (.int .u8 x)]:=rfl
@[go_sem] theorem eB_ (x:Bool):eB x=[.sc (.bool x)]:=rfl
@[go_sem] theorem eS_ (x:ByteArray):eS x=[.sc (.string x)]:=rfl
theorem zxz (l:List Int) (i:Nat) (x:Int):(l.map eI).set i [.sc (.int .i64 x)]=(l.set i x).map eI:=by rw [qe];rfl
theorem zxA (l:List Bool) (i:Nat) (x:Bool):(l.map eB).set i [.sc (.bool x)]=(l.set i x).map eB:=by rw [qe];rfl
theorem zxB (l:List ByteArray) (i:Nat) (x:ByteArray):(l.map eS).set i [.sc (.string x)]=(l.set i x).map eS:=by rw [qe];rfl
theorem zt0 (l:List Int) (i:Nat) (x:Int):(l.map eU8).set i [.sc (.int .u8 x)]=(l.set i x).map eU8:=by rw [qe];rfl
theorem zxC (l:List Int) (x:Int):l.map eI++[[.sc (.int .i64 x)]]=(l++[x]).map eI:=by rw [qd];rfl
theorem zxD (l:List Bool) (x:Bool):l.map eB++[[.sc (.bool x)]]=(l++[x]).map eB:=by rw [qd];rfl
theorem zxE (l:List ByteArray) (x:ByteArray):l.map eS++[[.sc (.string x)]]=(l++[x]).map eS:=by rw [qd];rfl
theorem zt1 (l:List Int) (x:Int):l.map eU8++[[.sc (.int .u8 x)]]=(l++[x]).map eU8:=by rw [qd];rfl
attribute [go_sem] zED zxz zxA zxB zt0 zxC zxD zxE zt1
@[go_sem] theorem zDw (l:List Int):zoE (l.map eI)=True:=zpV (λ x l h=>by simp only [eI,qr,qn,or_false] at h;exact ⟨_,h⟩) l
@[go_sem] theorem zDx (l:List ByteArray):zoE (l.map eS)=True:=zpV (λ x l h=>by simp only [eS,qr,qn,or_false] at h;exact ⟨_,h⟩) l
def byC (x:Int):Option (List Int)→Option (List Int)
 | some l=>some (x :: l)
 | none=>none
@[go_sem] theorem zGj (x:Int) (l:List Int):byC x (some l)=some (x :: l):=rfl
@[go_sem] theorem zDy:znp []=some []:=rfl
theorem zqz {m:Nat} {s:St} (id:Nat) (hp:zoR s.H id):Weak m s (s.pack id):=λ w0 W0 c0 a w hm ⟨c,hle,hr⟩=>let ⟨c',h1,h2⟩:=zuD hr id hp;⟨c',hle.trans h1,h2⟩
theorem zv8 {m:Nat} {s:St} (id p:Nat) (hp:zrL s.H id p):Weak m s (s.focus id p):=λ w0 W0 c0 a w hm ⟨c,hle,hr⟩=>let ⟨c',h1,h2⟩:=zxo hr id p hp;⟨c',hle.trans h1,h2⟩
theorem zBl {E:Env} {id:Nat} {ops:Array Oper} {dr:Bool} {s:St} {st:List Fm} (h:Gh E false id ops dr s st):Gh E true id ops dr s st:=ztV s (Weak.refl _ _) h
end Go.TL

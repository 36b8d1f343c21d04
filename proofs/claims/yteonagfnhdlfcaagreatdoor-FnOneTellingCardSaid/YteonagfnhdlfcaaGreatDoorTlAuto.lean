import Derived.Test.YteonagfnhdlfcaaGreatDoorTlStep
open Nat renaming reduceAdd → qA, reduceMul → qB, reduceSub → qC, reduceEqDiff → qD, reduceLT → qE, reduceLeDiff → qF, reduceBEq → qG, zero_add → qa, le_refl → qc
open Int renaming reduceToNat → qH, reduceEq → qI, reduceLE → qJ, reduceLT → qK
open List renaming length_set → qL, length_append → qM, length_replicate → qN, length_map → qO, length_cons → qP, length_nil → qQ, take_of_length_le → qb
set_option linter.unusedSimpArgs false
set_option linter.unusedVariables false
noncomputable section
namespace Go.TL
open Go
namespace S
@[go_sem] theorem zEQ (a b:ByteArray):bin .lss (.string a) (.string b)=some (.bool (Op.bytesLess a.toList b.toList)):=rfl
@[go_sem] theorem zER (a b:ByteArray):znd .lss (.string a) (.string b)=True:=rfl
@[go_sem] theorem zES (a b:ByteArray):bin .leq (.string a) (.string b)=some (.bool (Op.bytesLess a.toList b.toList || a.toList == b.toList)):=rfl
@[go_sem] theorem zET (a b:ByteArray):znd .leq (.string a) (.string b)=True:=rfl
@[go_sem] theorem zEU (a b:ByteArray):bin .gtr (.string a) (.string b)=some (.bool (!(Op.bytesLess a.toList b.toList || a.toList == b.toList))):=rfl
@[go_sem] theorem zEV (a b:ByteArray):znd .gtr (.string a) (.string b)=True:=rfl
@[go_sem] theorem zEW (a b:ByteArray):bin .geq (.string a) (.string b)=some (.bool (!Op.bytesLess a.toList b.toList)):=rfl
@[go_sem] theorem zEX (a b:ByteArray):znd .geq (.string a) (.string b)=True:=rfl
@[go_sem] theorem zCx {α:Type} (l:List α) (a:α):List.take (l.length+1) (l++[a])=l++[a]:=qb (by simp)
@[go_sem] theorem zCy (x:Option Nat) (H H':HL):flL (some (x,H,H'))=zrq H':=rfl
@[go_sem] theorem zCz:flL none=True:=rfl
@[go_sem] theorem fN_ (id es:Nat) (rows:List (List Leaf)) (H:HL):zrq ((id,some (true,.arr false es rows)) :: H)=scR rows:=rfl
@[go_sem] theorem zDB:scR []=True:=rfl
@[go_sem] theorem zCA (r:List Leaf) (q:List (List Leaf)):scR (r :: q)=(scr r∧scR q):=rfl
@[go_sem] theorem zDC:scr []=True:=rfl
@[go_sem] theorem zFZ (k:IntKind) (n:Int) (r:List Leaf):scr (.sc (.int k n) :: r)=scr r:=propext ⟨λ h=>h.2,λ h=>⟨rfl,h⟩⟩
@[go_sem] theorem zF0 (b:ByteArray) (r:List Leaf):scr (.sc (.string b) :: r)=scr r:=propext ⟨λ h=>h.2,λ h=>⟨rfl,h⟩⟩
@[go_sem] theorem zCB {α β:Type} (l:List α) (x:α) (e:α→β) (a b:β):(List.map e (l++[x])++[a]).set (l.length+1) b=List.map e (l++[x])++[b]:=by rw [List.set_append_right _ _ (by simp)];simp
@[go_sem] theorem zEY {α β:Type} (l:List α) (x:α) (a b:β):(if l.length+1≤(l++[x]).length then a else b)=a:=if_pos (by simp)
@[go_sem] theorem zGk {α:Type} {p:Prop} [Decidable (False∧p)] (a b:α):(if False∧p then a else b)=b:=if_neg λ h=>h.1
end S
theorem sA {p q:Prop} (h:q) (e:p=q:=by (conv=>lhs;simp (disch:=first | assumption | (simp only [qL];assumption)) only [go_sem,qA,qB,qC,qD,↓reduceIte,qE,reduceCtorEq,qF,qH,qI,qJ,qK,qG]);all_goals rfl):p:=e ▸ h
theorem zkw {p q:Prop} (hq:q) (hp:p:=by first | assumption | omega | exact ⟨by omega,λ _=>zmq λ _=>rfl⟩ | (refine ⟨by omega,?_,by omega⟩;first | exact zmq λ _=>rfl | simp) | (refine ⟨?_,by omega⟩;first | exact zmq λ _=>rfl | simp) | (refine ⟨by (simp only [qM,qP,qQ];omega),?_,by omega⟩;first | exact zmq λ _=>rfl | simp)):p∧q:=⟨hp,hq⟩
theorem zpp {p q:Prop} (hq:q) (hp:p:=by first|omega|(simp;omega)):p∧q:=⟨hp,hq⟩
section
variable {E:Env} {x y:Code} {d:Nat} {s:St} {st:List Fm} {α:Type} {A B:Option α} {r:α}
theorem zki {b c:Bool} (h:(if c=true then A else B)=some r) (h1:A=some r→c=true→Bs E true x y d s st) (h2:B=some r→c=false→Bs E false x y d s st)
  (e:b=c:=by first | rfl | (simp only [beq_iff_eq];done) | simp):Bs E b x y d s st:=by
 subst e
 cases b
 ·exact h2 h rfl
 ·exact h1 h rfl
theorem zkt {b c:Bool} {want:Bool} {op:Op} {dst:Option Nat} {md:Md} {all:Array Oper} {l:List Oper} (h:(if c=true then A else B)=some r) (h1:A=some r→c=true→Sp E true d want op dst md all l s st) (h2:B=some r→c=false→Sp E false d want op dst md all l s st)
  (e:b=c:=by first | rfl | (simp only [beq_iff_eq];done) | simp):Sp E b d want op dst md all l s st:=by
 subst e
 cases b
 ·exact h2 h rfl
 ·exact h1 h rfl
theorem zkj {g:FuncId} {caps args args':List LV} {H1:HL} {nxr:Nat} {res:LV} {wd dst:Option Nat} {md:Md} {all:Array Oper} {l:List Oper} (h:Fn E.P g args' [] 0 res H1 nxr)
  (hK:R E (md.nx wd s.H (zl4 [] (hp s.H) s.nx H1 s.H)) all l (s.put dst (zpz [] s.nx res) (zl4 [] (hp s.H) s.nx H1 s.H) (s.nx+nxr)) st)
  (h1:zlW [] (hp s.H) (args++caps)=some args':=by first | rfl | (simp (disch:=first | assumption | (simp only [qL];assumption)) only [go_sem,qA,qB,qC,qD,↓reduceIte,qE,reduceCtorEq,qF,qH,qI,qJ,qK,qG];first | done | rfl) | (simp only [qM,qP,qQ,qO,qL,qN,qa,qA];rfl) | (simp (disch:=first | assumption | (simp only [qL];assumption)) only [go_sem,qA,qB,qC,qD,↓reduceIte,qE,reduceCtorEq,qF,qH,qI,qJ,qK,qG];simp only [qM,qP,qQ,qO,qL,qN,qa,qA];rfl))
  (h6:zli [] (hp s.H) (args++caps)=[]∨(zvE res=true∧∀ p∈H1,∀ o,p.2=some o→zmw o.2=true):=by first | exact .inl rfl | exact .inr ⟨rfl,by simp [zmw,zpr]⟩ | exact .inl (by simp (disch:=first | assumption | (simp only [qL];assumption)) only [go_sem,qA,qB,qC,qD,↓reduceIte,qE,reduceCtorEq,qF,qH,qI,qJ,qK,qG];done)):Cl E (.fn g caps) args wd dst md all l s st :=
 zmc h h1 (FitAll.refl _) h6 hK
theorem zlj {g:FuncId} {caps args args':List LV} (ids:List Nat) {H0 H1:HL} {nxr:Nat} {res:LV} {wd dst:Option Nat} {md:Md} {all:Array Oper} {l:List Oper} (h:Fn E.P g args' H0 ids.length res H1 nxr)
  (hK:R E (md.nx wd s.H (zl4 ids (hp s.H) s.nx H1 s.H)) all l (s.put dst (zpz ids s.nx res) (zl4 ids (hp s.H) s.nx H1 s.H) (s.nx+(nxr - ids.length))) st)
  (h1:zlW ids (hp s.H) (args++caps)=some args':=by first | rfl | (simp (disch:=first | assumption | (simp only [qL];assumption)) only [go_sem,qA,qB,qC,qD,↓reduceIte,qE,reduceCtorEq,qF,qH,qI,qJ,qK,qG];first | done | rfl) | (simp only [qM,qP,qQ,qO,qL,qN,qa,qA];rfl) | (simp (disch:=first | assumption | (simp only [qL];assumption)) only [go_sem,qA,qB,qC,qD,↓reduceIte,qE,reduceCtorEq,qF,qH,qI,qJ,qK,qG];simp only [qM,qP,qQ,qO,qL,qN,qa,qA];rfl))
  (h3:zmv ids (hp s.H) 0 ids=some H0:=by first | rfl | (simp (disch:=first | assumption | (simp only [qL];assumption)) only [go_sem,qA,qB,qC,qD,↓reduceIte,qE,reduceCtorEq,qF,qH,qI,qJ,qK,qG];first | done | rfl) | (simp only [qM,qP,qQ,qO,qL,qN,qa,qA];rfl) | (simp (disch:=first | assumption | (simp only [qL];assumption)) only [go_sem,qA,qB,qC,qD,↓reduceIte,qE,reduceCtorEq,qF,qH,qI,qJ,qK,qG];simp only [qM,qP,qQ,qO,qL,qN,qa,qA];rfl)) (h4:ids.Nodup:=by decide) (h5:zli ids (hp s.H) (args++caps)=[]:=by first | rfl | (simp (disch:=first | assumption | (simp only [qL];assumption)) only [go_sem,qA,qB,qC,qD,↓reduceIte,qE,reduceCtorEq,qF,qH,qI,qJ,qK,qG];done)) (h7:(List.range ids.length).all (λ k=>(zkm H1 k).isSome)=true:=by rfl):Cl E (.fn g caps) args wd dst md all l s st :=
 zAD h h1 (FitAll.refl _) h3 h4 h5 h7 hK
theorem ztl {α:Type} {l:List α} {i j:Nat} {u v:α}:List.take l.length ((l.set i u).set j v)=(l.set i u).set j v:=qb (by simp)
theorem zqO {α:Type} {l:List α} {i:Nat} {u:α}:List.take l.length (l.set i u)=l.set i u:=qb (by simp)
theorem zkg {m:Nat} {s s2:St} (ρ:Ren) (h1:s2.nx=ρ.length:=by rfl) (h2:s2.nt=s.nt:=by rfl) (h3:ρ.take m=(List.range m).map some:=by rfl) (hinj:zsP (tgt ρ s2.H)=false:=by rfl)
  (hT:wkT ρ s.T s2.T:=by ((try simp (disch:=first | assumption | (simp only [qL];assumption)) only [go_sem,qA,qB,qC,qD,↓reduceIte,qE,reduceCtorEq,qF,qH,qI,qJ,qK,qG]);(repeat' first | done | rfl | omega | refine And.intro ?_ ?_ | (simp;done) | (simp only [qL,qc,↓reduceIte,ztl,zqO,go_sem];done) | (simp;omega)))) (hH:zri ρ (hp s.H) s2.H:=by ((try simp (disch:=first | assumption | (simp only [qL];assumption)) only [go_sem,qA,qB,qC,qD,↓reduceIte,qE,reduceCtorEq,qF,qH,qI,qJ,qK,qG]);(repeat' first | done | rfl | omega | refine And.intro ?_ ?_ | (simp;done) | (simp;omega)))):Weak m s s2:=zlB ρ h1 h2 h3 hinj hT hH
theorem zkc {tab:Tab} {m:Nat} {rs:List ResultVar} {res:LV} {H1:HL} {nxr:Nat} {e:Exit} (s2:St) (ρ:Ren) (h1:s2.nx=ρ.length:=by rfl) (h2:s2.nt=s.nt:=by rfl) (h3:ρ.take m=(List.range m).map some:=by rfl) (hinj:zsP (tgt ρ s2.H)=false:=by rfl)
  (hT:wkT ρ s.T s2.T:=by ((try simp (disch:=first | assumption | (simp only [qL];assumption)) only [go_sem,qA,qB,qC,qD,↓reduceIte,qE,reduceCtorEq,qF,qH,qI,qJ,qK,qG]);(repeat' first | done | rfl | omega | refine And.intro ?_ ?_ | (simp;done) | (simp only [qL,qc,↓reduceIte,ztl,zqO,go_sem];done) | (simp;omega)))) (hH:zri ρ (hp s.H) s2.H:=by ((try simp (disch:=first | assumption | (simp only [qL];assumption)) only [go_sem,qA,qB,qC,qD,↓reduceIte,qE,reduceCtorEq,qF,qH,qI,qJ,qK,qG]);(repeat' first | done | rfl | omega | refine And.intro ?_ ?_ | (simp;done) | (simp;omega)))) (hE:zAu tab rs res H1 nxr e s2:=by ((try simp (disch:=first | assumption | (simp only [qL];assumption)) only [go_sem,qA,qB,qC,qD,↓reduceIte,qE,reduceCtorEq,qF,qH,qI,qJ,qK,qG]);(repeat' first | done | rfl | omega | refine And.intro ?_ ?_ | (simp;done) | (simp;omega)))):zoF tab m rs res H1 nxr e s :=
 zlA s2 (zlB ρ h1 h2 h3 hinj hT hH) hE
theorem zqc {m:Nat} {s s2:St} (id:Nat) (hw:Weak m (s.pack id) s2) (hp:zoR s.H id:=by ((try simp (disch:=first | assumption | (simp only [qL];assumption)) only [go_sem,qA,qB,qC,qD,↓reduceIte,qE,reduceCtorEq,qF,qH,qI,qJ,qK,qG]);(repeat' first | done | rfl | omega | assumption | refine And.intro ?_ ?_ | (simp;done) | (simp;omega)))):Weak m s s2:=(zqz id hp).trans hw
theorem zl8 {tab:Tab} {m:Nat} {rs:List ResultVar} {res:LV} {H1:HL} {nxr:Nat} {e:Exit} (id:Nat) (h:zoF tab m rs res H1 nxr e (s.pack id)) (hp:zoR s.H id:=by ((try simp (disch:=first | assumption | (simp only [qL];assumption)) only [go_sem,qA,qB,qC,qD,↓reduceIte,qE,reduceCtorEq,qF,qH,qI,qJ,qK,qG]);(repeat' first | done | rfl | omega | assumption | refine And.intro ?_ ?_ | (simp;done) | (simp;omega)))):zoF tab m rs res H1 nxr e s:=by
 unfold zoF at h ⊢
 obtain ⟨s2,hw,hE⟩:=h
 exact ⟨s2,(zqz id hp).trans hw,hE⟩
theorem zon {id:Nat} {ops:Array Oper} {dr:Bool} (k p:Nat) (h:Gh E false id ops dr (s.focus k p) st) (hp:zrL s.H k p:=by ((try simp (disch:=first | assumption | (simp only [qL];assumption)) only [go_sem,qA,qB,qC,qD,↓reduceIte,qE,reduceCtorEq,qF,qH,qI,qJ,qK,qG]);(repeat' first | done | rfl | omega | assumption | refine And.intro ?_ ?_ | (simp;done) | (simp;omega)))):Gh E true id ops dr s st:=ztV _ (zv8 k p hp) h
end
end Go.TL

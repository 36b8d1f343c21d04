import Derived.Test.YteonagfnhdlfcaaGreatDoorTlOpE
set_option linter.unusedSimpArgs false
set_option linter.unusedVariables false
noncomputable section
namespace Go.TL
open Go
theorem zAq {P:Program} {tab:Tab} (htab:zlK P tab) {s:St} {op:Op} {e:Bool} {lv:LV} (h:znY tab s.T op=some (e,lv)) {w0 w:World} {W0:Fr} {c:Ctx} {a:Act} (hr:Rel w0 W0 c s a w) {o:Oper} (ho:o.op=op) :
  ∃ b:Bool,(execOp a.eval o).run P w=.ok (.value (.bool b)) w∧zxq (b == e) lv:=by
 unfold znY at h
 split at h
 ·rename_i op t x y t'
  split at h
  rotate_left
  ·cases h
  rename_i h0
  cases h
  have h:=h0
  unfold zvV at h
  simp only [Bool.and_eq_true] at h
  obtain ⟨⟨⟨h1,h2⟩,h3⟩,h4⟩:=h
  split at h2
  ·split at h3
   ·rename_i e he
    split at h3
    ·rename_i el hsh
     have hu:=(htab _ (zlL he)).slice hsh
     have hx:=zkN hr x
     have hsl:∃ ad len cap,a.eval x=.slice ad len cap∧(ad.isNone=true→zwD (ev s.T x)):=by
      generalize ev s.T x=lv at h4 hx
      generalize a.eval x=v at hx ⊢
      split at h4
      ·cases hx;exact ⟨_,_,_,rfl,λ _=>trivial⟩
      ·cases hx with
       | os hid hl hm hxx ha hn =>
        refine ⟨_,_,_,rfl,λ hna=>?_⟩
        rcases ha with ha | ha
        ·show _=0;omega
        ·rw [ha] at hna;cases hna
      ·cases hx with
       | lf hx =>
        cases hx with
        | nil=>exact ⟨_,_,_,rfl,λ _=>rfl⟩
        | sl cs hes hcap hS hr=>exact ⟨_,_,_,rfl,λ h=>by cases h⟩
      ·cases h4
     obtain ⟨ad,len,cap,hv,hemp⟩:=hsl
     have heq:(Op.equal t (.slice ad len cap) (.slice none 0 0)).run P w=.ok (ad.isNone) w:=by
      unfold Op.equal
      have:Op.maxDepth=9999+1:=rfl
      rw [this]
      unfold Op.equalIn
      cases ad<;>simp only [Sem.run_bind,zkS hu,Result.andThen_ok,Sem.run_pure,Option.isNone]
     unfold execOp
     rw [ho]
     have he2:a.eval (.const (.slice none 0 0))=.slice none 0 0:=rfl
     simp only [hv,he2]
     split at h1
     ·exact ⟨ad.isNone,by simp [eqGuard,Go.binOp,heq],λ h=>hemp (by simpa using h)⟩
     ·exact ⟨!ad.isNone,by simp [eqGuard,Go.binOp,heq],λ h=>hemp (by simpa using h)⟩
     ·cases h1
    ·cases h3
   ·cases h3
  ·cases h2
 ·cases h
theorem ztP {P:Program} {tab:Tab} (htab:zlK P tab) {s:St} {o:Oper} {K:LV→HL→Nat→Prop} (h:opW P tab s o.op K) {w0:World} {W0:Fr} {c:Ctx} {a:Act} {w:World} (hr:Rel w0 W0 c s a w)
  {next:Act→World→Prop} {Q:Exit→Act→World→Prop} (hn:∀ lv H nx v w' c',K lv H nx→c.Le c'→c'.nx=nx→Sit w0 W0 c' (hp H) w'→Same c w w'→Cv w' c' lv v→next (a.put o.dst v) w'):o.wp P a w next Q:=by
 generalize ho:o.op=op at h
 unfold opW at h
 split at h
 ·rename_i f args hca
  have hop:∃ cl:Call,op=.call cl∧cl.callee=.value f∧cl.args=args:=by
   unfold zm0 at hca
   split at hca
   ·rename_i cl
    split at hca
    ·rename_i f' hcl;cases hca;exact ⟨cl,rfl,hcl,rfl⟩
    ·cases hca
   ·cases hca
  obtain ⟨cl,rfl,hcl,rfl⟩:=hop
  unfold zs2 at h
  split at h
  ·rename_i g caps hx
   obtain ⟨hent,h⟩:=h
   have hf:=zkN hr f
   rw [hx] at hf
   generalize hfv:a.eval f=fv at hf
   cases hf with
   | @fn _ _ vs cs hn1 hv1 hc1 =>
    have hcall:=zAm h hr.sit hr.nx (vs:=cl.args.map a.eval++vs) (by simp [hn1]) (λ j hj=>by
     by_cases hlt:j < cl.args.size
     ·refine ⟨a.eval (cl.args[j]),by simp [Array.getElem?_append,hlt],?_⟩
      rw [List.getElem_append_left (by simpa using hlt)]
      simp only [List.getElem_map,Array.getElem_toList]
      exact zkN hr _
     ·have hlen:(cl.args.toList.map (ev s.T)).length=cl.args.size:=by simp
      have hj':j - cl.args.size < caps.length:=by simp at hj;omega
      refine ⟨cs (j - cl.args.size),?_,?_⟩
      ·rw [Array.getElem?_append,if_neg (by simpa using hlt)]
       simpa using hv1 (j - cl.args.size) hj'
      ·rw [List.getElem_append_right (by simp;omega)]
       simp only [hlen]
       exact hc1 _ hj')
    unfold Oper.wp
    have hrun:(execOp a.eval o).run P w=.ok (.enter g (cl.args.map a.eval++vs)) w:=by
     unfold execOp
     rw [ho]
     simp only [resolve,hcl,hfv,Deferred.ofValue,Sem.run_bind,Sem.run_pure,Result.andThen_ok,Array.empty_append,invoke]
     exact hent _ w
    rw [hrun,Oper.upon_enter]
    refine hcall.mono λ e w' ⟨v,c',lv,H',nx',he,hK,hle,hnx,hsit,hsame,hcv⟩=>?_
    subst he
    exact hn _ _ _ _ _ c' hK hle hnx hsit hsame hcv
  ·exact h.elim
 ·unfold plain at h
  split at h
  ·rename_i r hE
   obtain ⟨n,w',c',v,h1,h2,h3,h4,h5,h6,h7⟩:=zyD htab hE w0 W0 c a w hr h.1
   unfold Oper.wp
   rw [h1 o ho]
   rcases h2 with rfl | ⟨rfl,rfl⟩
   ·exact hn _ _ _ _ _ c' h.2 h3 h4 h5 h6 h7
   ·exact hn _ _ _ _ _ c' h.2 h3 h4 h5 h6 h7
  ·obtain ⟨e,lv,h1,h2⟩:=h
   obtain ⟨b,hb,hq⟩:=zAq htab h1 hr ho
   unfold Oper.wp
   rw [hb]
   exact hn _ _ _ _ _ c (h2 b hq) (.refl c) hr.nx hr.sit (.refl c w) (.lf (.sc rfl))
theorem zrT {P:Program} {tab:Tab} (htab:zlK P tab) {s:St} {o:Oper} {K:St→Prop} (h:zpw P tab s o K) {w0:World} {W0:Fr} {c:Ctx} {a:Act} {w:World} (hr:Rel w0 W0 c s a w)
  {next:Act→World→Prop} {Q:Exit→Act→World→Prop} (hn:∀ s' a' w' c',c.Le c'→Rel w0 W0 c' s' a' w'→K s'→next a' w'):o.wp P a w next Q :=
 ztP htab h.2 hr λ _ _ _ _ _ _ hK hle hnx hsit hsame hcv=>hn _ _ _ _ hle (ztO hr hle hnx hsit hsame h.1 hcv) hK
def ztQ:List (Nat×LV)→Nat→LV→List (Nat×LV)
 | [],d,v=>[(d,v)]
 | (k,x) :: r,d,v=>if d=k then (k,v) :: r else (k,x) :: ztQ r d v
theorem zwF (T:List (Nat×LV)) (d:Nat) (v:LV) (i:Nat):tv (ztQ T d v) i=if i=d then v else tv T i:=by
 induction T with
 | nil =>
  unfold ztQ tv
  simp only [zkm]
  split<;>rfl
 | cons p r ih =>
  obtain ⟨k,x⟩:=p
  unfold ztQ
  by_cases e:d=k
  ·subst e
   rw [if_pos rfl]
   unfold tv
   simp only [zkm]
   split<;>rfl
  ·rw [if_neg e]
   unfold tv at ih ⊢
   simp only [zkm]
   by_cases e2:i=k
   ·subst e2
    rw [if_pos rfl,if_neg (Ne.symm e),if_pos rfl]
   ·rw [if_neg e2,if_neg e2]
    exact ih
def St.know (s:St) (d:Nat) (b:Bool):St:={ s with T:=ztQ s.T d (.lf false (.sc (.bool b))) }
theorem zpZ {w0:World} {W0:Fr} {c:Ctx} {s:St} {a:Act} {w:World} (hr:Rel w0 W0 c s a w) {d:Nat} {b:Bool} (h:a.tmps.getD d undef=.bool b):Rel w0 W0 c (s.know d b) a w:=by
 refine ⟨hr.sit,hr.nx,λ i=>?_,hr.sz,hr.df⟩
 unfold St.know
 simp only [zwF]
 by_cases e:i=d
 ·subst e
  rw [if_pos rfl,h]
  exact .lf (.sc rfl)
 ·rw [if_neg e]
  exact hr.tmp i
theorem zp0 (w:World) (c:Ctx):Cv w c (.tu []) undef:=.tu (λ _=>undef) rfl (λ j hj=>by simp at hj) λ j hj=>by simp at hj
theorem zuH {w:World} {c:Ctx} {v:Value} (h:Cv w c (.tu []) v):v=undef:=by
 cases h with
 | tu cs hn _ _ =>
  have:_=#[]:=Array.size_eq_zero_iff.1 (by simpa using hn)
  rw [this];rfl
def zyF (lv:LV) (K:Bool→Prop) (K0:Prop):Prop:=match lv with
 | .tu []=>K0
 | lv=>zyE lv K
theorem zwG {lv:LV} {K:Bool→Prop} {K0:Prop} (h:zyF lv K K0):(lv=.tu []∧K0)∨∃ b,sc? lv=some (.bool b)∧K b:=by
 unfold zyF at h
 split at h
 ·exact .inl ⟨rfl,h⟩
 ·exact .inr (zwE h)
def zp1 (P:Program) (tab:Tab) (all:Array Oper):List Oper→St→(St→Prop)→Prop
  | [],s,K=>K s
  | o :: r,s,K=>match o.guard with
    | none=>zpw P tab s o λ s'=>zp1 P tab all r s' K
    | some (j,want)=>match (all[j]?).bind (·.dst) with
      | some d=>zyF (tv s.T d) (λ b=>(b=want→zpw P tab (s.know d want) o λ s'=>zp1 P tab all r s' K) ∧
            (b=!want→zmf s o.dst=true∧zp1 P tab all r ((s.know d (!want)).put o.dst (.tu []) s.H s.nx) K))
            (zmf s o.dst=true∧zp1 P tab all r (s.put o.dst (.tu []) s.H s.nx) K)
      | none=>False
theorem zpE {all:Array Oper} {j d:Nat} {tmps:Array Value} {b:Bool} (hd:(all[j]?).bind (·.dst)=some d) (h:tmps.getD d undef=.bool b):yielded all tmps j=some b:=by
 unfold yielded
 rw [hd]
 simp only [Option.bind_some]
 have:tmps[d]?=some (.bool b):=by
  simp only [Array.getD_eq_getD_getElem?] at h
  cases hq:tmps[d]? with
  | none=>rw [hq] at h;simp [undef] at h
  | some v=>rw [hq] at h;simpa using h
 rw [this]
theorem zp2 {all:Array Oper} {j d:Nat} {tmps:Array Value} (hd:(all[j]?).bind (·.dst)=some d) (h:tmps.getD d undef=undef):yielded all tmps j=none:=by
 unfold yielded
 rw [hd]
 simp only [Option.bind_some]
 cases hq:tmps[d]? with
 | none=>rfl
 | some v =>
  have:v=undef:=by simpa [Array.getD_eq_getD_getElem?,hq] using h
  rw [this];rfl
theorem zn9 {P:Program} {tab:Tab} (htab:zlK P tab) {all:Array Oper} {w0:World} {W0:Fr} {K:St→Prop} {Q:Exit→Act→World→Prop}:∀ (l:List Oper) (k:Nat) (s:St) (c:Ctx) (a:Act) (w:World),all.toList.drop k=l →
  zp1 P tab all l s K→Rel w0 W0 c s a w→(∀ s' a' w' c',c.Le c'→Rel w0 W0 c' s' a' w'→K s'→Q .normal a' w')→wpOps P all Q (List.range' k l.length) a w
 | [],k,s,c,a,w,_,h,hr,hn=>hn s a w c (.refl c) hr h
 | o :: r,k,s,c,a,w,hl,h,hr,hn=>by
  have hk:all[k]?=some o:=by
   have:(all.toList.drop k)[0]?=some o:=by rw [hl];rfl
   rw [List.getElem?_drop] at this
   simpa using this
  have hl':all.toList.drop (k+1)=r:=by
   rw [← List.drop_drop,hl];rfl
  rw [List.length_cons,List.range'_succ]
  simp only [wpOps,hk]
  unfold zp1 at h
  split at h
  ·rename_i hg
   have hw:Region.wanted o (yielded all a.tmps)=true:=by unfold Region.wanted;rw [hg]
   rw [if_pos hw]
   exact .inl (zrT htab h hr λ s' a' w' c' hle hr' hK=>zn9 htab r (k+1) s' c' a' w' hl' hK hr' λ s2 a2 w2 c2 hle2=>hn s2 a2 w2 c2 (hle.trans hle2))
  ·rename_i j want hg
   split at h
   ·rename_i d hd
    rcases zwG h with ⟨hu,h⟩ | ⟨b,hb,h⟩
    ·have hcv:=hr.tmp d
     rw [hu] at hcv
     have hv:=zuH hcv
     have hy:yielded all a.tmps j=none:=zp2 hd hv
     have hw:Region.wanted o (yielded all a.tmps)=false:=by unfold Region.wanted;rw [hg];simp [hy]
     rw [if_neg (by rw [hw];simp)]
     refine zn9 htab r (k+1) _ c _ w hl' h.2 (ztO hr (.refl c) hr.nx hr.sit (.refl c w) ?_ (zp0 w c)) hn
     exact h.1
    ·have hv:a.tmps.getD d undef=.bool b:=(zl3 hb (hr.tmp d)).1
     have hy:=zpE hd hv
     by_cases hbw:b=want
     ·have hw:Region.wanted o (yielded all a.tmps)=true:=by unfold Region.wanted;rw [hg];simp [hy,hbw]
      rw [if_pos hw]
      refine .inl (zrT htab (h.1 hbw) (zpZ hr (by rw [hv,hbw])) λ s' a' w' c' hle hr' hK=>zn9 htab r (k+1) s' c' a' w' hl' hK hr' λ s2 a2 w2 c2 hle2=>hn s2 a2 w2 c2 (hle.trans hle2))
     ·have hw:Region.wanted o (yielded all a.tmps)=false:=by unfold Region.wanted;rw [hg];simp [hy,hbw]
      have hb2:b=!want:=by cases b<;>cases want<;>simp_all
      rw [if_neg (by rw [hw];simp)]
      obtain ⟨h1,h2⟩:=h.2 hb2
      have hrk:=zpZ hr (d:=d) (b:=!want) (by rw [hv,hb2])
      refine zn9 htab r (k+1) _ c _ w hl' h2 (ztO hrk (.refl c) hr.nx hr.sit (.refl c w) ?_ (zp0 w c)) hn
      exact h1
   ·exact h.elim
end Go.TL

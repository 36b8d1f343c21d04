import Derived.Test.YteonagfnhdlfcaaGreatDoorG0TlCore
open List renaming length_set → qL, length_append → qM, length_cons → qP, length_nil → qQ, getElem_mem → qa, length_singleton → qg, all_eq_true → qi, getElem_cons_succ → qk, size_toArray → qp, getElem_append_left → qq, mem_cons_of_mem → qu, getElem_of_mem → qw, mem_cons_self → qx, getElem_take → qy, getElem_drop → qz, getElem_map → qbb
open Nat renaming zero_add → qb, mul_le_mul_right → qc, le_refl → qd, lt_succ_self → qf, zero_mul → qh, lt_of_lt_of_le → qj, add_mul → ql, add_zero → qn, eq_zero_or_pos → qo, le_add_right → qr, not_lt_zero → qt, add_assoc → qv
open Bool renaming and_eq_true → qe, or_eq_false_iff → qm
open Array renaming size_append → qba
set_option linter.unusedSimpArgs false
set_option linter.unusedVariables false
noncomputable section
namespace Go.TL
open Go
def DSh.isSc:DSh→Bool
 | .sc=>true
 | _=>false
def znG (ss:List DSh) (rows:List (List Leaf)):Ob:=if ss.all DSh.isSc=true then .arr false ss.length rows else .deep ss rows
def zyy:DSh→Leaf→Nat→LV
 | .sc,.sc v,_=>.lf false (.sc v)
 | .sl s',.sl rows,nx=>.os nx s'.length 0 rows.length rows.length false
 | _,_,_=>.un
def zuA (fr:Bool):DSh→Leaf→Option (Bool×Ob)
 | .sl s',.sl rows=>some (fr,znG s' rows)
 | _,_=>none
def zpn:List DSh→List Leaf→Nat→List LV
 | s :: ss,l :: r,nx=>zyy s l nx :: zpn ss r (nx+1)
 | _,_,_=>[]
def zpU (fr:Bool):List DSh→List Leaf→Nat→HL→HL
 | s :: ss,l :: r,nx,H=>(nx,zuA fr s l) :: zpU fr ss r (nx+1) H
 | _,_,_,H=>H
theorem zuB:∀ (ss:List DSh) (row:List Leaf) (nx:Nat),row.length=ss.length→(zpn ss row nx).length=ss.length ∧
  ∀ j (hj:j < ss.length) (hr:j < row.length) (hk:j < (zpn ss row nx).length),(zpn ss row nx)[j]=zyy (ss[j]) (row[j]) (nx+j)
 | [],[],nx,_=>⟨rfl,λ j hj=>by simp at hj⟩
 | [],_ :: _,_,h=>by simp at h
 | _ :: _,[],_,h=>by simp at h
 | s :: ss,l :: row,nx,h=>by
  obtain ⟨h1,h2⟩:=zuB ss row (nx+1) (by simpa using h)
  refine ⟨by simp [zpn,h1],λ j hj hr hk=>?_⟩
  cases j with
  | zero=>rfl
  | succ j =>
   simp only [qk,zpn]
   rw [h2 j (by simpa using hj) (by simpa using hr) (by simpa [zpn] using hk)]
   rw [show nx+1+j=nx+(j+1) by omega]
theorem zuC (fr:Bool) (H:HL):∀ (ss:List DSh) (row:List Leaf) (nx:Nat),row.length=ss.length→∀ k,
  (∀ (hk:nx≤k∧k < nx+ss.length) (h1:k - nx < ss.length) (h2:k - nx < row.length),hp (zpU fr ss row nx H) k=zuA fr (ss[k - nx]) (row[k - nx]))∧(¬ (nx≤k∧k < nx+ss.length)→hp (zpU fr ss row nx H) k=hp H k)
 | [],[],nx,_,k=>⟨λ hk=>by simp at hk;omega,λ _=>rfl⟩
 | [],_ :: _,_,h,_=>by simp at h
 | _ :: _,[],_,h,_=>by simp at h
 | s :: ss,l :: row,nx,h,k=>by
  obtain ⟨i1,i2⟩:=zuC fr H ss row (nx+1) (by simpa using h) k
  have hc:hp (zpU fr (s :: ss) (l :: row) nx H) k=if k=nx then zuA fr s l else hp (zpU fr ss row (nx+1) H) k:=by
   simp only [zpU];rw [zkD];rfl
  rw [hc]
  refine ⟨λ hk h1 h2=>?_,λ hk=>?_⟩
  ·by_cases e:k=nx
   ·subst e
    rw [if_pos rfl]
    simp
   ·rw [if_neg e]
    simp only [qP] at hk
    have e2:k - nx=(k - (nx+1))+1:=by omega
    simp only [e2,qk]
    exact i1 ⟨by omega,by omega⟩ (by omega) (by simp at h;omega)
  ·simp only [qP] at hk
   rw [if_neg (by omega)]
   exact i2 (by omega)
def St.focus (s:St) (id p:Nat):St :=
 match hp s.H id with
 | some (fr,.deep ss rows)=>⟨s.T,(id,some (fr,.foc ss rows p (zpn ss (rows.getD p []) s.nx))) :: zpU fr ss (rows.getD p []) s.nx s.H,s.nx+ss.length,s.nt⟩
 | _=>s
def zrL (H:HL) (id p:Nat):Prop :=
 match hp H id with
 | some (_,.deep _ rows)=>p < rows.length
 | _=>True
theorem RepD.flat {w:World} {B:Nat→Prop} {s:DSh} {v:Value} {l:Leaf} (h:RepD w B s v l) (hs:s.isSc=true):∃ u,l=.sc u∧v=u∧zpm u=true:=by
 cases h with
 | sc h=>exact ⟨_,rfl,rfl,h⟩
 | sl=>cases hs
structure ztK (w:World) (B:Nat→Prop) (s:DSh) (v:Value) (l:Leaf) (L:Loc):Prop where
 sc:s=.sc→∃ u,l=.sc u∧v=u∧zpm u=true
 sl:∀ ss,s=.sl ss→∃ rows a cap,l=.sl rows∧v=.slice a rows.length cap∧rows.length≤cap∧cap≤9223372036854775807∧(cap=0∨a=some ⟨L.b,L.base,none⟩)∧cap * ss.length≤L.n ∧
  ∀ c,(∀ j,j < L.n→w.frozen? ⟨L.b,L.base+j,none⟩=false)→Holds w c L (znG ss rows)
 inB:∀ b k,inR L b k→B b
 md:∀ x,L.more x→∀ ss rows,s=.sl ss→zpq (znG ss rows)=true
theorem zxn {w:World} {B:Nat→Prop} {s:DSh} {v:Value} {l:Leaf} (h:RepD w B s v l):∃ L,ztK w B s v l L:=by
 cases h with
 | sc h=>exact ⟨Loc.flat 0 0 0,λ _=>⟨_,rfl,rfl,h⟩,λ ss e=>(by cases e),λ b k hb=>by obtain ⟨_,h1⟩:=zlE hb;omega,λ x hx=>hx.elim⟩
 | @sl _ ss rows a cap b base n cs B' hcap ha hn hn0 hl hc hv hB hd hr =>
  rcases ha with rfl | ⟨rfl,hb⟩
  ·have h0:rows=[]:=List.eq_nil_of_length_eq_zero (by omega)
   subst h0
   refine ⟨Loc.flat 0 0 0,λ e=>(by cases e),λ s' e=>?_,λ b k hb=>by obtain ⟨_,h1⟩:=zlE hb;omega,λ x hx=>hx.elim⟩
   cases e
   refine ⟨[],a,0,rfl,rfl,qd _,hcap.2,.inl rfl,by simp,λ c _=>?_⟩
   unfold znG
   split
   ·exact ⟨by simp,λ r hr=>by simp at hr,λ j hj=>absurd hj (qt _),λ i j hi=>by simp at hi⟩
   ·exact ⟨by simp,λ r hr=>by simp at hr,λ j hj=>absurd hj (qt _),λ _ _ _=>False,λ _ _ _ h=>h.elim,λ _ _ _ _ _ h=>h.elim,λ i j hi=>by simp at hi⟩
  ·refine ⟨⟨b,base,n,λ x=>ss.all DSh.isSc=false∧∃ i j,B' i j x⟩,λ e=>(by cases e),λ s' e=>?_,λ b' k hb'=>?_,λ x hx s' rows' e=>?_⟩
   ·cases e
    have hlen:rows.length * ss.length≤n:=Nat.le_trans (qc _ hcap.1) hn
    refine ⟨rows,_,cap,rfl,rfl,hcap.1,hcap.2,.inr rfl,hn,λ c hz=>?_⟩
    have hth:∀ j,j < n→∃ v,w.cell? ⟨b,base+j,none⟩=some v∧w.frozen? ⟨b,base+j,none⟩=false:=λ j hj=>by
     obtain ⟨u,hu⟩:=hc j hj
     exact ⟨u,hu,hz j hj⟩
    unfold znG
    split
    ·rename_i hsc
     refine ⟨hlen,hl,hth,λ i j hi hj v hv'=>?_⟩
     have hj':j < ss.length:=by rw [← hl _ (qa hi)];exact hj
     have:=hv i j hi hj'
     simp only at hv'
     rw [this] at hv'
     cases hv'
     have hs:(ss[j]).isSc=true:=by rw [qi] at hsc;exact hsc _ (qa hj')
     obtain ⟨u,hu,huv,hus⟩:=(hr i j hi hj hj').flat hs
     rw [hu,huv]
     exact .sc hus
    ·rename_i hsc
     refine ⟨hlen,hl,hth,B',λ i j x hx=>⟨⟨by simpa using hsc,i,j,hx⟩,(hB i j x hx).2⟩,hd,λ i j hi hj hj' v hv'=>?_⟩
     have:=hv i j hi hj'
     simp only at hv'
     rw [this] at hv'
     cases hv'
     exact hr i j hi hj hj'
   ·rcases hb' with ⟨h1,_⟩ | ⟨_,i,j,hx⟩
    ·rw [h1];exact hb
    ·exact (hB i j b' hx).1
   ·cases e
    unfold znG
    rw [if_neg (by rw [hx.1];simp)]
    rfl
theorem zxo {w0:World} {W0:Fr} {c:Ctx} {s:St} {a:Act} {w:World} (hr:Rel w0 W0 c s a w) (id p:Nat) (hpp:zrL s.H id p):∃ c',c.Le c'∧Rel w0 W0 c' (s.focus id p) a w:=by
 unfold zrL at hpp
 unfold St.focus
 split
 case h_2=>exact ⟨c,.refl c,hr⟩
 rename_i fr ss rows ho
 rw [ho] at hpp
 simp only at hpp
 obtain ⟨hid,g1,g0,g2,B,hB,hd,g3⟩:id < c.nx∧Holds w c (c.loc id) (.deep ss rows):=hr.sit.own id _ ho
 have hrow:rows.getD p []=rows[p]:=by simp [hpp]
 have hlen:(rows[p]).length=ss.length:=g0 _ (qa hpp)
 rw [hrow]
 have hcell:∀ j (hj:j < ss.length),∃ L v,w.cell? ⟨(c.loc id).b,(c.loc id).base+(p * ss.length+j),none⟩=some v∧ztK w (B p j) (ss[j]) v ((rows[p])[j]'(by omega)) L:=by
  intro j hj
  have:=zk1 (es:=ss.length) (j:=j) hpp hj
  obtain ⟨v,hv,_⟩:=g2 (p * ss.length+j) (by omega)
  obtain ⟨L,hL⟩:=zxn (g3 p j hpp (by omega) hj v hv)
  exact ⟨L,v,hv,hL⟩
 let LJ:Nat→Loc:=λ j=>if hj:j < ss.length then Classical.choose (hcell j hj) else Loc.flat 0 0 0
 have hLJ:∀ j (hj:j < ss.length),∃ v,w.cell? ⟨(c.loc id).b,(c.loc id).base+(p * ss.length+j),none⟩=some v∧ztK w (B p j) (ss[j]) v ((rows[p])[j]'(by omega)) (LJ j):=by
  intro j hj
  have:=Classical.choose_spec (hcell j hj)
  show ∃ v,_∧ztK w (B p j) (ss[j]) v _ (if hj:j < ss.length then Classical.choose (hcell j hj) else Loc.flat 0 0 0)
  rw [dif_pos hj]
  exact this
 let c':Ctx:=⟨c.F,c.G,λ k=>if k=id then ⟨(c.loc id).b,(c.loc id).base,(c.loc id).n,λ x=>∃ i j,i≠p∧B i j x⟩ else if k < c.nx then c.loc k else LJ (k - c.nx),c.nx+ss.length⟩
 have hcid:c'.loc id=⟨(c.loc id).b,(c.loc id).base,(c.loc id).n,λ x=>∃ i j,i≠p∧B i j x⟩:=if_pos rfl
 have hcold:∀ k,k≠id→k < c.nx→c'.loc k=c.loc k:=λ k h1 h2=>by
  show (if k=id then _ else if k < c.nx then c.loc k else LJ (k - c.nx))=_
  rw [if_neg h1,if_pos h2]
 have hcnew:∀ j,c'.loc (c.nx+j)=LJ j:=λ j=>by
  show (if c.nx+j=id then _ else if c.nx+j < c.nx then c.loc (c.nx+j) else LJ (c.nx+j - c.nx))=_
  rw [if_neg (by omega),if_neg (by omega)]
  congr 1;omega
 have hle:c.Le c':=⟨rfl,λ _ _ h=>h,qr _ _,λ k hk=>by
  by_cases e:k=id
  ·subst e;rw [hcid];exact ⟨rfl,rfl,rfl⟩
  ·rw [hcold k e hk];exact Loc.same.refl _⟩
 have hsame:Same c w w:=Same.refl c w
 have hcase:∀ k o,hp ((id,some (fr,Ob.foc ss rows p (zpn ss (rows[p]) s.nx))) :: zpU fr ss (rows[p]) s.nx s.H) k=some o →
   (k=id∧o=(fr,.foc ss rows p (zpn ss (rows[p]) s.nx)))∨(k≠id∧k < c.nx∧hp s.H k=some o) ∨
   (∃ j,∃ (hj:j < ss.length),k=c.nx+j∧zuA fr (ss[j]) ((rows[p])[j]'(by omega))=some o):=by
  intro k o hk
  rw [zkD] at hk
  by_cases e:k=id
  ·subst e;rw [zlf] at hk;cases hk;exact .inl ⟨rfl,rfl⟩
  ·rw [zle _ _ e] at hk
   obtain ⟨i1,i2⟩:=zuC fr s.H ss (rows[p]) s.nx hlen k
   by_cases hk2:s.nx≤k∧k < s.nx+ss.length
   ·rw [i1 hk2 (by omega) (by omega)] at hk
    refine .inr (.inr ⟨k - s.nx,by omega,by rw [hr.nx];omega,hk⟩)
   ·rw [i2 hk2] at hk
    exact .inr (.inl ⟨e,(hr.sit.own k o hk).1,hk⟩)
 have hinJ:∀ j (hj:j < ss.length) b k,inR (LJ j) b k→B p j b:=λ j hj b k hb=>by
  obtain ⟨v,_,hca⟩:=hLJ j hj
  exact hca.inB b k hb
 have hsub:∀ k o,hp ((id,some (fr,Ob.foc ss rows p (zpn ss (rows[p]) s.nx))) :: zpU fr ss (rows[p]) s.nx s.H) k=some o →
   ∃ k0 o0,hp s.H k0=some o0∧o0.1=o.1∧∀ b j,inR (c'.loc k) b j→inR (c.loc k0) b j:=by
  intro k o hk
  rcases hcase k o hk with ⟨rfl,rfl⟩ | ⟨e,hlt,hk⟩ | ⟨j,hj,rfl,hk1⟩
  ·refine ⟨k,_,ho,rfl,λ b j hb=>?_⟩
   rw [hcid] at hb
   rcases hb with hb | ⟨i,j',_,hb⟩
   ·exact .inl hb
   ·exact .inr (hB i j' b hb).1
  ·exact ⟨k,o,hk,rfl,λ b j hb=>by rw [hcold k e hlt] at hb;exact hb⟩
  ·refine ⟨id,_,ho,?_,λ b j' hb=>?_⟩
   ·unfold zuA at hk1
    split at hk1
    ·cases hk1;rfl
    ·cases hk1
   ·rw [hcnew] at hb
    exact .inr (hB p j b (hinJ j hj b j' hb)).1
 refine ⟨c',hle,⟨⟨hr.sit.keep,λ k o hk=>?_,λ k k' o o' hk hk' hne b l l' hb hb'=>?_,λ k o hk b l hb=>?_,hr.sit.old,hr.sit.new,λ b l v he=>⟨(hr.sit.res b l v he).1,(hr.sit.res b l v he).2.1,(hr.sit.res b l v he).2.2.1,(hr.sit.res b l v he).2.2.2.1,λ k o hk l' hb=>?_⟩,λ k o hk b l hb=>?_,λ k o hk x hx=>?_⟩,
  by show c.nx+_=s.nx+_;rw [hr.nx],λ i=>(hr.tmp i).mono hle hsame,hr.sz,hr.df⟩⟩
 ·rcases hcase k o hk with ⟨rfl,rfl⟩ | ⟨e,hlt,hk⟩ | ⟨j,hj,rfl,hk1⟩
  ·refine ⟨qj hid (qr _ _),?_⟩
   rw [hcid]
   obtain ⟨f1,f2⟩:=zuB ss (rows[p]) s.nx hlen
   refine ⟨g1,g0,g2,⟨λ i j x=>i≠p∧B i j x,λ i j x h=>⟨⟨i,j,h.1,h.2⟩,(hB i j x h.2).2⟩,λ i j i' j' x h h'=>hd i j i' j' x h.2 h'.2,λ i j hi hj hj' v hip hv=>?_⟩,hpp,f1,λ j hj v hv=>?_⟩
   ·exact (g3 i j hi hj hj' v hv).mono (λ x hx=>⟨hip,hx⟩) λ _ _ _=>rfl
   ·have hj':j < ss.length:=by omega
    obtain ⟨v',hv',hca⟩:=hLJ j hj'
    simp only at hv
    rw [hv'] at hv
    cases hv
    rw [f2 j hj' (by omega) hj]
    cases hs:ss[j] with
    | sc =>
     obtain ⟨u,h1,h2,h3⟩:=hca.sc hs
     rw [h1,h2]
     exact .lf (.sc h3)
    | sl s' =>
     obtain ⟨rows',a',cap,h1,h2,h3,h4,h5,h6,_⟩:=hca.sl s' hs
     rw [h1,h2]
     show Cv w c' (.os (s.nx+j) s'.length 0 rows'.length rows'.length false) _
     rw [← hr.nx]
     refine .os (by show c.nx+j < c.nx+ss.length;omega) h3 ⟨h3,h4⟩ (λ h=>by cases h) ?_ ?_
     ·rw [hcnew];simpa using h5
     ·rw [hcnew];simpa using h6
  ·refine ⟨qj hlt (qr _ _),?_⟩
   rw [hcold k e hlt]
   exact (hr.sit.own k o hk).2.mono hle hsame λ _ _ _=>⟨rfl,rfl⟩
  ·refine ⟨by show c.nx+j < c.nx+ss.length;omega,?_⟩
   rw [hcnew]
   obtain ⟨v',hv',hca⟩:=hLJ j hj
   cases hs:ss[j] with
   | sc=>rw [hs] at hk1;cases hk1
   | sl s' =>
    obtain ⟨rows',a',cap,h1,h2,h3,h4,h5,h6,h7⟩:=hca.sl s' hs
    rw [hs,h1] at hk1
    cases hk1
    refine h7 c' λ l hl=>?_
    have hin:inR (LJ j) (LJ j).b ((LJ j).base+l):=.inl ⟨rfl,by omega⟩
    exact hr.sit.pl id _ ho _ 0 (.inr (hB p j _ (hinJ j hj _ _ hin)).1) _
 ·-- apart
  have key:∀ j (hj:j < ss.length) b l l',inR (LJ j) b l→¬ inR (c'.loc id) b l':=by
   intro j hj b l l' h1 h2
   rw [hcid] at h2
   have hbj:=hinJ j hj b l h1
   rcases h2 with ⟨h2,_⟩ | ⟨i,j',hip,h2⟩
   ·exact (hB p j b hbj).2 h2
   ·exact hip (hd i j' p j b h2 hbj).1
  have keyo:∀ j (hj:j < ss.length) k o,k≠id→hp s.H k=some o→∀ b l l',inR (LJ j) b l→¬ inR (c.loc k) b l':=by
   intro j hj k o hne hk b l l' h1 h2
   exact hr.sit.dis id k _ _ ho hk (Ne.symm hne) b l l' (.inr (hB p j b (hinJ j hj b l h1)).1) h2
  have keyi:∀ k o,k≠id→k < c.nx→hp s.H k=some o→∀ b l l',inR (c'.loc id) b l→¬ inR (c.loc k) b l':=by
   intro k o hne hlt hk b l l' h1 h2
   obtain ⟨k0,o0,h3,_,h4⟩:=hsub id _ (by rw [zkD];exact zlf _ _ _)
   rw [hcid] at h1
   have h1':inR (c.loc id) b l:=by
    rcases h1 with h1 | ⟨i,j,_,h1⟩
    ·exact .inl h1
    ·exact .inr (hB i j b h1).1
   exact hr.sit.dis id k _ _ ho hk (Ne.symm hne) b l l' h1' h2
  rcases hcase k o hk with ⟨rfl,rfl⟩ | ⟨e,hlt,hk1⟩ | ⟨j,hj,rfl,hk1⟩<;>rcases hcase k' o' hk' with ⟨rfl,rfl⟩ | ⟨e',hlt',hk1'⟩ | ⟨j',hj',rfl,hk1'⟩
  ·exact hne rfl
  ·rw [hcold k' e' hlt'] at hb';exact keyi k' o' e' hlt' hk1' b l l' hb hb'
  ·rw [hcnew] at hb';exact key j' hj' b l' l hb' hb
  ·rw [hcold k e hlt] at hb;exact keyi k o e hlt hk1 b l' l hb' hb
  ·rw [hcold k e hlt] at hb;rw [hcold k' e' hlt'] at hb';exact hr.sit.dis k k' _ _ hk1 hk1' hne b l l' hb hb'
  ·rw [hcold k e hlt] at hb;rw [hcnew] at hb';exact keyo j' hj' k o e hk1 b l' l hb' hb
  ·rw [hcnew] at hb;exact key j hj b l l' hb hb'
  ·rw [hcnew] at hb;rw [hcold k' e' hlt'] at hb';exact keyo j hj k' o' e' hk1' b l l' hb hb'
  ·rw [hcnew] at hb hb'
   have:=(hd p j p j' b (hinJ j hj b l hb) (hinJ j' hj' b l' hb')).2
   exact hne (by rw [this])
 ·obtain ⟨k0,o0,h1,h2,h3⟩:=hsub k o hk
  rw [← h2]
  exact hr.sit.sep k0 o0 h1 b l (h3 b l hb)
 ·obtain ⟨k0,o0,h1,h2,h3⟩:=hsub k o hk
  exact (hr.sit.res b l v he).2.2.2.2 k0 o0 h1 l' (h3 b l' hb)
 ·obtain ⟨k0,o0,h1,h2,h3⟩:=hsub k o hk
  exact hr.sit.pl k0 o0 h1 b l (h3 b l hb)
 ·have hlt:x < w.heap.size:=by
   obtain ⟨k0,o0,h1,h2,h3⟩:=hsub k o hk
   exact hr.sit.lt h1 (h3 x 0 (.inr hx))
  refine ⟨hlt,?_⟩
  rcases hcase k o hk with ⟨rfl,rfl⟩ | ⟨e,hlt',hk1⟩ | ⟨j,hj,rfl,hk1⟩
  ·rfl
  ·rw [hcold k e hlt'] at hx;exact (hr.sit.mo k o hk1 x hx).2
  ·rw [hcnew] at hx
   obtain ⟨v',hv',hca⟩:=hLJ j hj
   cases hs:ss[j] with
   | sc=>rw [hs] at hk1;cases hk1
   | sl s' =>
    obtain ⟨rows',_,_,h1,_⟩:=hca.sl s' hs
    rw [hs,h1] at hk1
    cases hk1
    exact hca.md x hx s' rows' hs
def zoE (rows:List (List Leaf)):Prop:=∀ r∈rows,∀ l∈r,∃ v,l=.sc v
theorem zpV {α:Type} {f:α→List Leaf} (h:∀ x,∀ l∈f x,∃ v,l=Leaf.sc v) (l:List α):zoE (l.map f)=True:=by
 refine eq_true λ r hr=>?_
 obtain ⟨x,_,rfl⟩:=List.mem_map.1 hr
 exact h x
theorem zyz {w:World} {S S':zkF} {v:Value} {l:Leaf} (h:RepL w S v l) (hl:∃ v,l=.sc v):RepL w S' v l:=by
 obtain ⟨u,rfl⟩:=hl
 cases h with | sc h=>exact .sc h
def zrM (H:HL):DSh→LV→Option (Leaf×Option Nat×Bool)
 | .sc,.lf _ (.sc v)=>some (.sc v,none,true)
 | .sl _,.nl=>some (.sl [],none,true)
 | .sl s',.os k es lo _ _ _=>match hp H k with
  | some (fr,.arr _ es' rows)=>if es=s'.length∧es'=es∧lo=0∧0 < es∧s'.all DSh.isSc=true then some (.sl rows,some k,fr) else none
  | some (fr,.deep _ rows)=>if es=s'.length∧lo=0∧0 < es then some (.sl rows,some k,fr) else none
  | _=>none
 | _,_=>none
def zpW (H:HL):DSh→LV→Prop
 | .sl s',.os k _ _ len _ _=>match hp H k with
  | some (_,.arr _ _ rows)=>len=rows.length∧zoE rows
  | some (_,.deep s2 rows)=>s2=s'∧len=rows.length
  | _=>True
 | _,_=>True
def zna (H:HL):List DSh→List LV→Option (List Leaf×List Nat×Bool)
 | [],[]=>some ([],[],true)
 | s :: ss,k :: ks=>match zrM H s k,zna H ss ks with
  | some (l,some n,f),some (ls,kl,g)=>some (l :: ls,n :: kl,f && g)
  | some (l,none,f),some (ls,kl,g)=>some (l :: ls,kl,f && g)
  | _,_=>none
 | _,_=>none
def znX (H:HL):List DSh→List LV→Prop
 | s :: ss,k :: ks=>zpW H s k∧znX H ss ks
 | _,_=>True
def inN (x:Nat):List Nat→Bool
 | []=>false
 | y :: r=>(x == y) || inN x r
def ztL:List Nat→Bool
 | []=>false
 | x :: r=>inN x r || ztL r
theorem ztM {x:Nat}:∀ {l:List Nat},inN x l=false→x∉l
 | [],_=>by simp
 | y :: r,h=>by
  simp only [inN,qm,beq_eq_false_iff_ne] at h
  simp only [List.mem_cons,not_or]
  exact ⟨h.1,ztM h.2⟩
def zoQ:List Nat→HL→HL
 | [],H=>H
 | k :: r,H=>(k,none) :: zoQ r H
theorem zsW:∀ (l:List Nat) (H:HL) (k:Nat),(k∈l→hp (zoQ l H) k=none)∧(k∉l→hp (zoQ l H) k=hp H k)
 | [],H,k=>⟨λ h=>(by cases h),λ _=>rfl⟩
 | x :: r,H,k=>by
  obtain ⟨h1,h2⟩:=zsW r H k
  simp only [zoQ]
  rw [zkD]
  by_cases e:k=x
  ·subst e;rw [zlf];exact ⟨λ _=>rfl,λ h=>absurd qx h⟩
  ·rw [zle _ _ e]
   refine ⟨λ h=>h1 ((List.mem_cons.1 h).resolve_left e),λ h=>h2 λ h'=>h (qu _ h')⟩
def St.pack (s:St) (id:Nat):St :=
 match hp s.H id with
 | some (fr,.foc ss rows p ks)=>match zna s.H ss ks with
  | some (ls,kl,f)=>if (inN id kl || ztL kl)=false then ⟨s.T,(id,some (fr && f,.deep ss (rows.set p ls))) :: zoQ kl s.H,s.nx,s.nt⟩ else s
  | none=>s
 | _=>s
def zoR (H:HL) (id:Nat):Prop :=
 match hp H id with
 | some (_,.foc ss _ _ ks)=>znX H ss ks
 | _=>True
structure zyA (w:World) (c:Ctx) (H:HL) (s:DSh) (k:LV) (l:Leaf) (n:Option Nat) (f:Bool):Prop where
 rep:∀ v,Cv w c k v→RepD w (λ x=>∃ m o,n=some m∧hp H m=some o∧∃ off,inR (c.loc m) x off) s v l
 obj:∀ m,n=some m→∃ o,hp H m=some o∧(f=true→o.1=true)
theorem zsX {w0 w:World} {W0:Fr} {c:Ctx} {H:HL} (hs:Sit w0 W0 c (hp H) w) {s:DSh} {k:LV} {l:Leaf} {n:Option Nat} {f:Bool} (h:zrM H s k=some (l,n,f)) (hq:zpW H s k):zyA w c H s k l n f:=by
 unfold zrM at h
 split at h
 ·cases h
  exact ⟨λ v hv=>by cases hv with | lf h=>cases h with | sc h=>exact .sc h,λ m e=>by cases e⟩
 ·cases h
  exact ⟨λ v hv=>by
   cases hv with
   | nl a=>exact .sl (rows:=[]) (b:=0) (base:=0) (n:=0) (λ _ _=>undef) (λ _ _ _=>False) (by simp) (.inl rfl) (by simp) (λ _=>rfl) (λ r hr=>by cases hr) (λ j hj=>absurd hj (qt _)) (λ i j hi=>by simp at hi) (λ _ _ _ h=>h.elim) (λ _ _ _ _ _ h=>h.elim) (λ i j hi=>by simp at hi),λ m e=>by cases e⟩
 ·rename_i s' k es lo len mc ex
  simp only [zpW] at hq
  split at h
  ·rename_i fr t es' rows ho
   rw [ho] at hq
   simp only at hq
   obtain ⟨rfl,hfl⟩:=hq
   split at h
   ·rename_i hcond
    obtain ⟨rfl,rfl,rfl,he0,hall⟩:=hcond
    cases h
    refine ⟨λ v hv=>?_,λ m e=>by cases e;exact ⟨_,ho,id⟩⟩
    obtain ⟨hid,g1,g0,g2,g3⟩:k < c.nx∧Holds w c (c.loc k) (.arr t s'.length rows):=hs.own k _ ho
    cases hv with
    | os hid' hl hm hx ha hn =>
     rename_i cap a
     simp only [qh,qb,qn] at ha hn
     refine .sl (b:=(c.loc k).b) (base:=(c.loc k).base) (n:=cap * s'.length) (λ i j=>(w.cell? ⟨(c.loc k).b,(c.loc k).base+(i * s'.length+j),none⟩).getD undef) (λ _ _ _=>False) ⟨hl,hm.2⟩ ?_ (qd _) (λ h=>by rw [h];simp) g0 (λ j hj=>?_) (λ i j hi hj=>?_) (λ _ _ _ h=>h.elim) (λ _ _ _ _ _ h=>h.elim) (λ i j hi hj hj'=>?_)
     ·rcases ha with ha | ha
      ·exact .inl ha
      ·rcases qo cap with h0 | h0
       ·exact .inl h0
       ·have hp0:0 < cap * s'.length:=Nat.mul_pos h0 he0
        exact .inr ⟨ha,k,_,rfl,ho,(c.loc k).base,.inl ⟨rfl,by omega⟩⟩
     ·obtain ⟨u,hu,_⟩:=g2 j (by omega);exact ⟨u,hu⟩
     ·have:=zk1 hi hj
      obtain ⟨u,hu,_⟩:=g2 (i * s'.length+j) (by omega)
      rw [hu];rfl
     ·have:=zk1 hi hj'
      obtain ⟨u,hu,_⟩:=g2 (i * s'.length+j) (by omega)
      have h3:=g3 i j hi hj u hu
      have hsc:(s'[j]).isSc=true:=by rw [qi] at hall;exact hall _ (qa hj')
      obtain ⟨q,hq⟩:=hfl _ (qa hi) _ (qa hj)
      rw [hu]
      simp only [Option.getD_some]
      rw [hq] at h3 ⊢
      cases h3 with
      | sc h3 =>
       generalize s'[j]=sj at hsc
       cases sj with
       | sc=>exact .sc h3
       | sl=>cases hsc
   ·cases h
  ·rename_i fr s2 rows ho
   rw [ho] at hq
   simp only at hq
   obtain ⟨rfl,rfl⟩:=hq
   split at h
   ·rename_i hcond
    obtain ⟨rfl,rfl,he0⟩:=hcond
    cases h
    refine ⟨λ v hv=>?_,λ m e=>by cases e;exact ⟨_,ho,id⟩⟩
    obtain ⟨hid,g1,g0,g2,B,hB,hd,g3⟩:k < c.nx∧Holds w c (c.loc k) (.deep s2 rows):=hs.own k _ ho
    cases hv with
    | os hid' hl hm hx ha hn =>
     rename_i cap a
     simp only [qh,qb,qn] at ha hn
     refine .sl (b:=(c.loc k).b) (base:=(c.loc k).base) (n:=cap * s2.length) (λ i j=>(w.cell? ⟨(c.loc k).b,(c.loc k).base+(i * s2.length+j),none⟩).getD undef) B ⟨hl,hm.2⟩ ?_ (qd _) (λ h=>by rw [h];simp) g0 (λ j hj=>?_) (λ i j hi hj=>?_) (λ i j x hx=>⟨⟨k,_,rfl,ho,0,.inr (hB i j x hx).1⟩,(hB i j x hx).2⟩) hd (λ i j hi hj hj'=>?_)
     ·rcases ha with ha | ha
      ·exact .inl ha
      ·rcases qo cap with h0 | h0
       ·exact .inl h0
       ·have hp0:0 < cap * s2.length:=Nat.mul_pos h0 he0
        exact .inr ⟨ha,k,_,rfl,ho,(c.loc k).base,.inl ⟨rfl,by omega⟩⟩
     ·obtain ⟨u,hu,_⟩:=g2 j (by omega);exact ⟨u,hu⟩
     ·have:=zk1 hi hj
      obtain ⟨u,hu,_⟩:=g2 (i * s2.length+j) (by omega)
      rw [hu];rfl
     ·have:=zk1 hi hj'
      obtain ⟨u,hu,_⟩:=g2 (i * s2.length+j) (by omega)
      rw [hu]
      exact g3 i j hi hj hj' u hu
   ·cases h
  ·cases h
 ·cases h
theorem zn8 {w0 w:World} {W0:Fr} {c:Ctx} {H:HL} (hs:Sit w0 W0 c (hp H) w):∀ {ss:List DSh} {ks:List LV} {ls:List Leaf} {kl:List Nat} {f:Bool},zna H ss ks=some (ls,kl,f)→znX H ss ks→ls.length=ss.length ∧
  ∃ N:Nat→Option Nat,(∀ j (h1:j < ss.length) (h2:j < ks.length) (h3:j < ls.length),zyA w c H (ss[j]) (ks[j]) (ls[j]) (N j) f)∧(∀ j m,N j=some m→j < ss.length∧m∈kl)∧(∀ m∈kl,∃ j,N j=some m)∧(ztL kl=false→∀ i j m,N i=some m→N j=some m→i=j)
 | [],[],ls,kl,f,h,_=>by cases h;exact ⟨rfl,λ _=>none,λ j h1=>by simp at h1,λ j m h=>(by cases h),λ m h=>(by cases h),λ _ i j m h=>(by cases h)⟩
 | [],_ :: _,_,_,_,h,_=>by cases h
 | _ :: _,[],_,_,_,h,_=>by cases h
 | s :: ss,k :: ks,ls,kl,f,h,hq=>by
  obtain ⟨hq1,hq2⟩:=hq
  unfold zna at h
  split at h
  ·rename_i l n f1 ls' kl' g hc hl
   cases h
   obtain ⟨e1,N,e2,e3,e4,e5⟩:=zn8 hs hl hq2
   have hp1:=zsX hs hc hq1
   refine ⟨by simp [e1],λ j=>match j with | 0=>some n | j+1=>N j,λ j h1 h2 h3=>?_,λ j m hm=>?_,λ m hm=>?_,λ hdp i j m hi hj=>?_⟩
   ·cases j with
    | zero=>exact ⟨hp1.rep,λ m hm=>let ⟨o,a,b⟩:=hp1.obj m hm;⟨o,a,λ hf=>b (by rw [qe] at hf;exact hf.1)⟩⟩
    | succ j =>
     have hp2:=e2 j (by simpa using h1) (by simpa using h2) (by simpa using h3)
     exact ⟨hp2.rep,λ m hm=>let ⟨o,a,b⟩:=hp2.obj m hm;⟨o,a,λ hf=>b (by rw [qe] at hf;exact hf.2)⟩⟩
   ·cases j with
    | zero=>cases hm;exact ⟨by simp,qx⟩
    | succ j=>obtain ⟨q1,q2⟩:=e3 j m hm;exact ⟨by simpa using q1,qu _ q2⟩
   ·rcases List.mem_cons.1 hm with rfl | hm
    ·exact ⟨0,rfl⟩
    ·obtain ⟨j,hj⟩:=e4 m hm;exact ⟨j+1,hj⟩
   ·simp only [ztL,qm] at hdp
    cases i with
    | zero =>
     cases j with
     | zero=>rfl
     | succ j=>cases hi;exact absurd (e3 j _ hj).2 (ztM hdp.1)
    | succ i =>
     cases j with
     | zero=>cases hj;exact absurd (e3 i _ hi).2 (ztM hdp.1)
     | succ j=>rw [e5 hdp.2 i j m hi hj]
  ·rename_i l f1 ls' kl' g hc hl
   cases h
   obtain ⟨e1,N,e2,e3,e4,e5⟩:=zn8 hs hl hq2
   have hp1:=zsX hs hc hq1
   refine ⟨by simp [e1],λ j=>match j with | 0=>none | j+1=>N j,λ j h1 h2 h3=>?_,λ j m hm=>?_,λ m hm=>?_,λ hdp i j m hi hj=>?_⟩
   ·cases j with
    | zero=>exact ⟨hp1.rep,λ m hm=>by cases hm⟩
    | succ j =>
     have hp2:=e2 j (by simpa using h1) (by simpa using h2) (by simpa using h3)
     exact ⟨hp2.rep,λ m hm=>let ⟨o,a,b⟩:=hp2.obj m hm;⟨o,a,λ hf=>b (by rw [qe] at hf;exact hf.2)⟩⟩
   ·cases j with
    | zero=>cases hm
    | succ j=>obtain ⟨q1,q2⟩:=e3 j m hm;exact ⟨by simpa using q1,q2⟩
   ·obtain ⟨j,hj⟩:=e4 m hm;exact ⟨j+1,hj⟩
   ·cases i with
    | zero=>cases hi
    | succ i =>
     cases j with
     | zero=>cases hj
     | succ j=>rw [e5 hdp i j m hi hj]
  ·cases h
theorem zuD {w0:World} {W0:Fr} {c:Ctx} {s:St} {a:Act} {w:World} (hr:Rel w0 W0 c s a w) (id:Nat) (hpp:zoR s.H id):∃ c',c.Le c'∧Rel w0 W0 c' (s.pack id) a w:=by
 unfold zoR at hpp
 unfold St.pack
 split
 case h_2=>exact ⟨c,.refl c,hr⟩
 rename_i fr ss rows p ks ho
 rw [ho] at hpp
 simp only at hpp
 split
 case h_2=>exact ⟨c,.refl c,hr⟩
 rename_i ls kl f hl
 split
 case isFalse=>exact ⟨c,.refl c,hr⟩
 rename_i hdd
 rw [qm] at hdd
 have hni:=ztM hdd.1
 obtain ⟨hid,g1,g0,g2,⟨B,hB,hd,g3⟩,g4,g5,g6⟩:id < c.nx∧Holds w c (c.loc id) (.foc ss rows p ks):=hr.sit.own id _ ho
 obtain ⟨e1,N,e2,e3,e4,e5⟩:=zn8 hr.sit hl hpp
 have hkl:∀ m∈kl,∃ o,hp s.H m=some o∧(f=true→o.1=true):=λ m hm=>by
  obtain ⟨j,hj⟩:=e4 m hm
  have hjs:=(e3 j m hj).1
  exact (e2 j hjs (by omega) (by omega)).obj m hj
 let mor:Nat→Prop:=λ x=>(c.loc id).more x∨∃ m∈kl,∃ off,inR (c.loc m) x off
 let c':Ctx:=⟨c.F,c.G,λ k=>if k=id then ⟨(c.loc id).b,(c.loc id).base,(c.loc id).n,mor⟩ else c.loc k,c.nx⟩
 have hcid:c'.loc id=⟨(c.loc id).b,(c.loc id).base,(c.loc id).n,mor⟩:=if_pos rfl
 have hcold:∀ k,k≠id→c'.loc k=c.loc k:=λ k h1=>if_neg h1
 have hle:c.Le c':=⟨rfl,λ _ _ h=>h,qd _,λ k hk=>by
  by_cases e:k=id
  ·subst e;rw [hcid];exact ⟨rfl,rfl,rfl⟩
  ·rw [hcold k e];exact Loc.same.refl _⟩
 have hsame:Same c w w:=Same.refl c w
 have hcase:∀ k o,hp ((id,some (fr && f,Ob.deep ss (rows.set p ls))) :: zoQ kl s.H) k=some o →
   (k=id∧o=(fr && f,.deep ss (rows.set p ls)))∨(k≠id∧k∉kl∧hp s.H k=some o):=by
  intro k o hk
  rw [zkD] at hk
  by_cases e:k=id
  ·subst e;rw [zlf] at hk;cases hk;exact .inl ⟨rfl,rfl⟩
  ·rw [zle _ _ e] at hk
   obtain ⟨i1,i2⟩:=zsW kl s.H k
   by_cases hm:k∈kl
   ·rw [i1 hm] at hk;cases hk
   ·rw [i2 hm] at hk;exact .inr ⟨e,hm,hk⟩
 have hsub:∀ b l,inR (c'.loc id) b l→∃ k0 o0,(k0=id∨k0∈kl)∧hp s.H k0=some o0∧((fr && f)=true→o0.1=true)∧∃ l0,inR (c.loc k0) b l0:=by
  intro b l hb
  rw [hcid] at hb
  rcases hb with hb | hb | ⟨m,hm,off,hb⟩
  ·exact ⟨id,_,.inl rfl,ho,λ h=>by rw [qe] at h;exact h.1,l,.inl hb⟩
  ·exact ⟨id,_,.inl rfl,ho,λ h=>by rw [qe] at h;exact h.1,0,.inr hb⟩
  ·obtain ⟨o,h1,h2⟩:=hkl m hm
   exact ⟨m,o,.inr hm,h1,λ h=>h2 (by rw [qe] at h;exact h.2),off,hb⟩
 refine ⟨c',hle,⟨⟨hr.sit.keep,λ k o hk=>?_,λ k k' o o' hk hk' hne b l l' hb hb'=>?_,λ k o hk b l hb=>?_,hr.sit.old,hr.sit.new,λ b l v he=>⟨(hr.sit.res b l v he).1,(hr.sit.res b l v he).2.1,(hr.sit.res b l v he).2.2.1,(hr.sit.res b l v he).2.2.2.1,λ k o hk l' hb=>?_⟩,λ k o hk b l hb k2=>?_,λ k o hk x hx=>?_⟩,
  hr.nx,λ i=>(hr.tmp i).mono hle hsame,hr.sz,hr.df⟩⟩
 ·rcases hcase k o hk with ⟨rfl,rfl⟩ | ⟨e,hm,hk1⟩
  ·refine ⟨hid,?_⟩
   rw [hcid]
   have hrl:∀ r∈rows.set p ls,r.length=ss.length:=λ r hr'=>by
    rcases List.mem_or_eq_of_mem_set hr' with h | h
    ·exact g0 r h
    ·rw [h];exact e1
   refine ⟨by rw [qL];exact g1,hrl,g2,λ i j x=>if i=p then ∃ m o,N j=some m∧hp s.H m=some o∧∃ off,inR (c.loc m) x off else B i j x,λ i j x hx=>?_,λ i j i' j' x hx hx'=>?_,λ i j hi hj hj' v hv=>?_⟩
   ·have hx:(if i=p then ∃ m o,N j=some m∧hp s.H m=some o∧∃ off,inR (c.loc m) x off else B i j x):=hx
    by_cases hip:i=p
    ·rw [if_pos hip] at hx
     obtain ⟨m,o,h1,h2,off,h3⟩:=hx
     have hmk:=(e3 j m h1).2
     refine ⟨.inr ⟨m,hmk,off,h3⟩,λ hxb=>?_⟩
     have hjs:=(e3 j m h1).1
     have hlt:=zk1 (es:=ss.length) (j:=j) g4 hjs
     have htop:inR (c.loc k) (c.loc k).b (c.loc k).base:=.inl ⟨rfl,by omega⟩
     exact hr.sit.dis k m _ _ ho h2 (λ e=>hni (e ▸ hmk)) x _ off (by rw [hxb];exact htop) h3
    ·rw [if_neg hip] at hx
     exact ⟨.inl (hB i j x hx).1,(hB i j x hx).2⟩
   ·have hx:(if i=p then ∃ m o,N j=some m∧hp s.H m=some o∧∃ off,inR (c.loc m) x off else B i j x):=hx
    have hx':(if i'=p then ∃ m o,N j'=some m∧hp s.H m=some o∧∃ off,inR (c.loc m) x off else B i' j' x):=hx'
    have apart:∀ i j m o off,B i j x→N i'=N i'→hp s.H m=some o→m∈kl→inR (c.loc m) x off→False:=λ i j m o off h1 _ h2 hmk h3 =>
     hr.sit.dis k m _ _ ho h2 (λ e=>hni (e ▸ hmk)) x 0 off (.inr (hB i j x h1).1) h3
    by_cases hi:i=p<;>by_cases hi':i'=p
    ·rw [if_pos hi] at hx
     rw [if_pos hi'] at hx'
     obtain ⟨m,o,h1,h2,off,h3⟩:=hx
     obtain ⟨m',o',h1',h2',off',h3'⟩:=hx'
     have hmm:m=m':=Classical.byContradiction λ hne=>hr.sit.dis m m' _ _ h2 h2' hne x off off' h3 h3'
     subst hmm
     exact ⟨hi.trans hi'.symm,e5 hdd.2 j j' m h1 h1'⟩
    ·rw [if_pos hi] at hx
     rw [if_neg hi'] at hx'
     obtain ⟨m,o,h1,h2,off,h3⟩:=hx
     exact (apart i' j' m o off hx' rfl h2 (e3 j m h1).2 h3).elim
    ·rw [if_neg hi] at hx
     rw [if_pos hi'] at hx'
     obtain ⟨m,o,h1,h2,off,h3⟩:=hx'
     exact (apart i j m o off hx rfl h2 (e3 j' m h1).2 h3).elim
    ·rw [if_neg hi] at hx
     rw [if_neg hi'] at hx'
     exact hd i j i' j' x hx hx'
   ·have hi2:i < rows.length:=by simpa using hi
    by_cases hip:i=p
    ·subst hip
     simp only [if_true]
     have hkv:=g6 j (by omega) v hv
     have hpa:=(e2 j hj' (by omega) (by omega)).rep v hkv
     have hget:((rows.set i ls)[i]'hi)[j]'hj=ls[j]'(by omega):=by
      apply Option.some.inj
      rw [← List.getElem?_eq_getElem,← List.getElem?_eq_getElem]
      congr 1
      simp
     rw [hget]
     exact hpa
    ·simp only [if_neg hip]
     have hget:((rows.set p ls)[i]'hi)[j]'hj=(rows[i])[j]'(by rw [g0 _ (qa hi2)];exact hj'):=by
      apply Option.some.inj
      rw [← List.getElem?_eq_getElem,← List.getElem?_eq_getElem,List.getElem_set_ne (Ne.symm hip)]
     rw [hget]
     exact g3 i j hi2 (by rw [g0 _ (qa hi2)];exact hj') hj' v hip hv
  ·refine ⟨(hr.sit.own k o hk1).1,?_⟩
   rw [hcold k e]
   exact (hr.sit.own k o hk1).2.mono hle hsame λ _ _ _=>⟨rfl,rfl⟩
 ·have keyi:∀ k o,k≠id→k∉kl→hp s.H k=some o→∀ b l l',inR (c'.loc id) b l→¬ inR (c.loc k) b l':=by
   intro k o hne hm hk b l l' h1 h2
   obtain ⟨k0,o0,h3,h4,_,l0,h5⟩:=hsub b l h1
   refine hr.sit.dis k0 k _ _ h4 hk (λ e=>?_) b l0 l' h5 h2
   rcases h3 with h3 | h3
   ·exact hne (e ▸ h3)
   ·exact hm (e ▸ h3)
  rcases hcase k o hk with ⟨rfl,rfl⟩ | ⟨e,hm,hk1⟩<;>rcases hcase k' o' hk' with ⟨rfl,rfl⟩ | ⟨e',hm',hk1'⟩
  ·exact hne rfl
  ·rw [hcold k' e'] at hb';exact keyi k' o' e' hm' hk1' b l l' hb hb'
  ·rw [hcold k e] at hb;exact keyi k o e hm hk1 b l' l hb' hb
  ·rw [hcold k e] at hb;rw [hcold k' e'] at hb';exact hr.sit.dis k k' _ _ hk1 hk1' hne b l l' hb hb'
 ·rcases hcase k o hk with ⟨rfl,rfl⟩ | ⟨e,hm,hk1⟩
  ·obtain ⟨k0,o0,h3,h4,h6,l0,h5⟩:=hsub b l hb
   obtain ⟨q1,q2,q3⟩:=hr.sit.sep k0 o0 h4 b l h5
   refine ⟨q1,q2,?_⟩
   cases hff:fr && f
   ·exact q3.imp (λ q=>⟨rfl,q.2⟩) id
   ·rw [h6 hff] at q3
    rcases q3 with ⟨q3,_⟩ | q3
    ·cases q3
    ·exact .inr q3
  ·rw [hcold k e] at hb
   exact hr.sit.sep k o hk1 b l hb
 ·rcases hcase k o hk with ⟨rfl,rfl⟩ | ⟨e,hm,hk1⟩
  ·obtain ⟨k0,o0,h3,h4,h6,l0,h5⟩:=hsub b l' hb
   exact (hr.sit.res b l v he).2.2.2.2 k0 o0 h4 l0 h5
  ·rw [hcold k e] at hb
   exact (hr.sit.res b l v he).2.2.2.2 k o hk1 l' hb
 ·rcases hcase k o hk with ⟨rfl,rfl⟩ | ⟨e,hm,hk1⟩
  ·obtain ⟨k0,o0,h3,h4,h6,l0,h5⟩:=hsub b l hb
   exact hr.sit.pl k0 o0 h4 b l0 h5 k2
  ·rw [hcold k e] at hb
   exact hr.sit.pl k o hk1 b l hb k2
 ·rcases hcase k o hk with ⟨rfl,rfl⟩ | ⟨e,hm,hk1⟩
  ·refine ⟨?_,rfl⟩
   obtain ⟨k0,o0,h3,h4,h6,l0,h5⟩:=hsub x 0 (.inr hx)
   exact hr.sit.lt h4 h5
  ·rw [hcold k e] at hx
   exact hr.sit.mo k o hk1 x hx
end Go.TL
namespace Go.TL
open Go
section
variable {P:Program} {s:St}
theorem zvQ {w:World} {L:Loc} {ss:List DSh} {rows:List (List Leaf)} {c:Ctx} (h:Holds w c L (.deep ss rows)) :
  ∃ (cs:List Value) (B:Nat→Nat→Nat→Prop),cs.length=rows.length * ss.length∧(∀ j v,cs[j]?=some v→w.cell? ⟨L.b,L.base+j,none⟩=some v)∧(∀ i j x,B i j x→L.more x∧x≠L.b) ∧
   (∀ i j i' j' x,B i j x→B i' j' x→i=i'∧j=j')∧∀ i j (hi:i < rows.length) (hj:j < (rows[i]).length) (hj':j < ss.length) v,cs[i * ss.length+j]?=some v→RepD w (B i j) (ss[j]) v ((rows[i])[j]):=by
 obtain ⟨g1,g0,g2,B,hB,hd,g3⟩:=h
 refine ⟨(List.range (rows.length * ss.length)).map λ j=>(w.cell? ⟨L.b,L.base+j,none⟩).getD undef,B,by simp,λ j v hv=>?_,hB,hd,λ i j hi hj hj' v hv=>?_⟩
 ·by_cases hlt:j < rows.length * ss.length
  ·obtain ⟨u,hu,_⟩:=g2 j (by omega)
   simp [hlt,hu] at hv
   rw [← hv];exact hu
  ·rw [List.getElem?_eq_none (by simp;omega)] at hv;cases hv
 ·have hlt:=zk1 hi hj'
  obtain ⟨u,hu,_⟩:=g2 (i * ss.length+j) (by omega)
  have:v=u:=by simp [hlt,hu] at hv;exact hv.symm
  rw [this]
  exact g3 i j hi hj hj' u hu
theorem zrN {t:Nat} {e:TE} {x:Operand} {id es i off:Nat} {fr:Bool} {ss:List DSh} {rows:List (List Leaf)} {row:List Leaf} (h:OkT P t e) (hk:e.sh.known=true) (hx:ev s.T x=.pe id es i off) (ho:hp s.H id=some (fr,.deep ss rows)) (hes:ss.length=es)
  (hsc:((ss.drop off).take e.size).all DSh.isSc=true) (h1:e.sh.agg=false→0 < e.size):Does P (.load t x) s ⟨rows[i]?=some row∧off+e.size≤row.length,znm e.sh.agg (((row.drop off).take e.size).map (mk false)),s.H,s.nx⟩:=by
 refine .quiet rfl rfl λ w0 W0 c a w hr ⟨hrow,hb⟩=>?_
 have hx':=zkN hr x
 rw [hx] at hx'
 generalize hv:a.eval x=v at hx'
 subst hes
 cases hx' with
 | pe hid =>
  obtain ⟨g1,g0,g2,B,hB,hd,g3⟩:Holds w c (c.loc id) (.deep ss rows):=(hr.sit.own id _ ho).2
  have hlt:i < rows.length:=by
   rcases Nat.lt_or_ge i rows.length with h1 | h1
   ·exact h1
   ·rw [List.getElem?_eq_none h1] at hrow;cases hrow
  rw [List.getElem?_eq_getElem hlt] at hrow
  cases hrow
  have hes:(rows[i]).length=ss.length:=g0 _ (qa hlt)
  have hcell:∀ j,j < e.size→w.cell? ⟨(c.loc id).b,(c.loc id).base+(i * ss.length+off)+j,none⟩=some ((w.cell? ⟨(c.loc id).b,(c.loc id).base+(i * ss.length+off)+j,none⟩).getD undef):=by
   intro j hj
   have:=zk1 (es:=ss.length) (j:=off+j) hlt (by omega)
   obtain ⟨u,hu,_⟩:=g2 (i * ss.length+(off+j)) (by omega)
   rw [show (c.loc id).base+(i * ss.length+(off+j))=(c.loc id).base+(i * ss.length+off)+j by omega] at hu
   rw [hu];rfl
  refine ⟨if e.sh.agg then .agg ((List.range e.size).map λ j=>(w.cell? ⟨(c.loc id).b,(c.loc id).base+(i * ss.length+off)+j,none⟩).getD undef).toArray else (w.cell? ⟨(c.loc id).b,(c.loc id).base+(i * ss.length+off)+0,none⟩).getD undef,λ o ho=>?_,?_⟩
  ·unfold execOp
   rw [ho]
   simp only [hv,Instr.loadAt,Instr.sureAddr,Sem.run_bind,Sem.run_pure,Result.andThen_ok]
   rw [zmy h hk e.size rfl h1 hcell]
   rfl
  ·have hlen:((((rows[i]).drop off).take e.size).map (mk false)).length=e.size:=by simp;omega
   have:=zou (agg:=e.sh.agg) (ls:=(((rows[i]).drop off).take e.size).map (mk false)) (w:=w) (c:=c) (cs:=λ j=>(w.cell? ⟨(c.loc id).b,(c.loc id).base+(i * ss.length+off)+j,none⟩).getD undef) (λ j hj=>by
    rw [hlen] at hj
    simp only [qbb,qy,qz]
    have hj2:off+j < ss.length:=by omega
    have h3:=g3 i (off+j) hlt (by omega) hj2 _ (by
     rw [show (c.loc id).base+(i * ss.length+(off+j))=(c.loc id).base+(i * ss.length+off)+j by omega]
     exact hcell j hj)
    have hs:(ss[off+j]).isSc=true:=by
     rw [qi] at hsc
     refine hsc _ ?_
     rw [List.mem_iff_getElem?]
     refine ⟨j,?_⟩
     rw [List.getElem?_take_of_lt hj,List.getElem?_drop,List.getElem?_eq_getElem hj2]
    obtain ⟨u,e1,e2,e3⟩:=h3.flat hs
    rw [e1,e2]
    exact .lf (.sc e3)) (by rw [hlen];exact h1)
   rw [hlen] at this
   exact this
theorem zsJ {t:Nat} {e:TE} {x:Operand} {id es i p off:Nat} {fr:Bool} {ss:List DSh} {rows:List (List Leaf)} {ks:List LV} (h:OkT P t e) (hk:e.sh.known=true) (hx:ev s.T x=.pe id es i off) (ho:hp s.H id=some (fr,.foc ss rows p ks)) (hes:ss.length=es)
  (hb:off+e.size≤ks.length) (h1:e.sh.agg=false→0 < e.size):Does P (.load t x) s ⟨i=p,znm e.sh.agg ((ks.drop off).take e.size),s.H,s.nx⟩:=by
 refine .quiet rfl rfl λ w0 W0 c a w hr hip=>?_
 have hip:i=p:=hip
 have hx':=zkN hr x
 rw [hx] at hx'
 generalize hv:a.eval x=v at hx'
 subst hes
 subst hip
 cases hx' with
 | pe hid =>
  obtain ⟨g1,g0,g2,_,hlt,g5,g6⟩:Holds w c (c.loc id) (.foc ss rows i ks):=(hr.sit.own id _ ho).2
  have hcell:∀ j,j < e.size→w.cell? ⟨(c.loc id).b,(c.loc id).base+(i * ss.length+off)+j,none⟩=some ((w.cell? ⟨(c.loc id).b,(c.loc id).base+(i * ss.length+off)+j,none⟩).getD undef):=by
   intro j hj
   have:=zk1 (es:=ss.length) (j:=off+j) hlt (by omega)
   obtain ⟨u,hu,_⟩:=g2 (i * ss.length+(off+j)) (by omega)
   rw [show (c.loc id).base+(i * ss.length+(off+j))=(c.loc id).base+(i * ss.length+off)+j by omega] at hu
   rw [hu];rfl
  refine ⟨if e.sh.agg then .agg ((List.range e.size).map λ j=>(w.cell? ⟨(c.loc id).b,(c.loc id).base+(i * ss.length+off)+j,none⟩).getD undef).toArray else (w.cell? ⟨(c.loc id).b,(c.loc id).base+(i * ss.length+off)+0,none⟩).getD undef,λ o ho=>?_,?_⟩
  ·unfold execOp
   rw [ho]
   simp only [hv,Instr.loadAt,Instr.sureAddr,Sem.run_bind,Sem.run_pure,Result.andThen_ok]
   rw [zmy h hk e.size rfl h1 hcell]
   rfl
  ·have hlen:((ks.drop off).take e.size).length=e.size:=by simp;omega
   have:=zou (agg:=e.sh.agg) (ls:=(ks.drop off).take e.size) (w:=w) (c:=c) (cs:=λ j=>(w.cell? ⟨(c.loc id).b,(c.loc id).base+(i * ss.length+off)+j,none⟩).getD undef) (λ j hj=>by
    rw [hlen] at hj
    simp only [qy,qz]
    refine g6 (off+j) (by omega) _ ?_
    rw [show (c.loc id).base+(i * ss.length+(off+j))=(c.loc id).base+(i * ss.length+off)+j by omega]
    exact hcell j hj) (by rw [hlen];exact h1)
   rw [hlen] at this
   exact this
theorem zoS {t:Nat} {e:TE} {x y:Operand} {id es i off:Nat} {fr:Bool} {o:Ob} {ss:List DSh} {rows:List (List Leaf)} {ks0 ks:List LV} (h:OkT P t e) (hx:ev s.T x=.pe id es i off)
  (ho:hp s.H id=some (fr,o)) (hkind:(o=.deep ss rows∧off=0∧e.size=ss.length∧ks0=ks)∨∃ p,o=.foc ss rows p ks0) (hes:ss.length=es) (hy:zlh (ev s.T y)=some ks) (hf:ks.all flat=true) (hk:ks.length=e.size) (hb:off+e.size≤ks0.length) :
  Does P (.store t x y) s ⟨(o=.deep ss rows→i < rows.length)∧(∀ p,o=.foc ss rows p ks0→i=p),.un,(id,some (fr,.foc ss rows i (put ks0 off ks))) :: s.H,s.nx⟩:=by
 intro w0 W0 c a w hr ⟨hlt0,hip⟩
 have hx':=zkN hr x
 rw [hx] at hx'
 have hy':=zkN hr y
 obtain ⟨hn,hv⟩:=zmD hy hy'
 generalize hxv:a.eval x=xv at hx'
 generalize hyv:a.eval y=yv at hn hv
 subst hes
 cases hx' with
 | pe hid =>
  have hHo:Holds w c (c.loc id) o:=(hr.sit.own id _ ho).2
  have hlt:i < rows.length:=by
   rcases hkind with ⟨h,_⟩ | ⟨p,h⟩
   ·exact hlt0 h
   ·rw [hip p h];rw [h] at hHo;exact hHo.2.2.2.2.1
  obtain ⟨g1,g0,g2,B,hB,hd,g3⟩:rows.length * ss.length≤(c.loc id).n∧(∀ r∈rows,r.length=ss.length)∧(∀ j,j < (c.loc id).n→∃ v,w.cell? ⟨(c.loc id).b,(c.loc id).base+j,none⟩=some v∧w.frozen? ⟨(c.loc id).b,(c.loc id).base+j,none⟩=false) ∧
    ∃ B:Nat→Nat→Nat→Prop,(∀ i j x,B i j x→(c.loc id).more x∧x≠(c.loc id).b)∧(∀ i j i' j' x,B i j x→B i' j' x→i=i'∧j=j') ∧
    ∀ i' j (hi:i' < rows.length) (hj:j < (rows[i']).length) (hj':j < ss.length) v,i'≠i→w.cell? ⟨(c.loc id).b,(c.loc id).base+(i' * ss.length+j),none⟩=some v→RepD w (B i' j) (ss[j]) v ((rows[i'])[j]):=by
   rcases hkind with ⟨rfl,_⟩ | ⟨p,rfl⟩
   ·obtain ⟨g1,g0,g2,B,hB,hd,g3⟩:=hHo
    exact ⟨g1,g0,g2,B,hB,hd,λ i' j hi hj hj' v _ hv=>g3 i' j hi hj hj' v hv⟩
   ·obtain ⟨g1,g0,g2,⟨B,hB,hd,g3⟩,_⟩:=hHo
    have:=hip p rfl
    subst this
    exact ⟨g1,g0,g2,B,hB,hd,g3⟩
  have hk0:ks0.length=ss.length∧∀ j (hj:j < ks0.length) v,¬ (off≤j∧j < off+e.size)→w.cell? ⟨(c.loc id).b,(c.loc id).base+(i * ss.length+j),none⟩=some v→Cv w c (ks0[j]) v:=by
   rcases hkind with ⟨_,h0,h2,h3⟩ | ⟨p,rfl⟩
   ·refine ⟨by rw [h3];omega,λ j hj v hno _=>?_⟩
    rw [h3] at hj
    exact absurd ⟨by omega,by omega⟩ hno
   ·have:=hip p rfl
    subst this
    exact ⟨hHo.2.2.2.2.2.1,λ j hj v _ hv=>hHo.2.2.2.2.2.2 j hj v hv⟩
  have hlen:yv.cells.toList.length=e.size:=by simp [hn,hk]
  have hin:∀ j,j < e.size→i * ss.length+off+j < (c.loc id).n:=λ j hj=>by
   have:=zk1 (es:=ss.length) (j:=off+j) hlt (by omega)
   omega
  have hthere:∀ j,j < e.size→∃ u,w.cell? ⟨(c.loc id).b,(c.loc id).base+(i * ss.length+off)+j,none⟩=some u∧w.frozen? ⟨(c.loc id).b,(c.loc id).base+(i * ss.length+off)+j,none⟩=false:=by
   intro j hj
   obtain ⟨u,hu,hz⟩:=g2 (i * ss.length+off+j) (hin j hj)
   rw [← qv] at hu hz
   exact ⟨u,hu,hz⟩
  have hone:∀ u∈yv.cells.toList,u.oneCell'=true:=by
   intro u hu
   obtain ⟨j,hj,rfl⟩:=qw hu
   have hj2:j < yv.cells.size:=by simpa using hj
   exact (znl (by rw [qi] at hf;exact hf _ (qa (by omega))) (hv j (by omega) _ (by simp [hj2]))).1
  have hrun:=zov (P:=P) h (w:=w) (b:=(c.loc id).b) (o:=(c.loc id).base+(i * ss.length+off)) (v:=yv) (by omega) hthere hone
  have hkeep:=keep_setCells w (c.loc id).b ((c.loc id).base+(i * ss.length+off)) yv.cells.toList
  have hcells:∀ j (hj:j < e.size),(w.setCells (c.loc id).b ((c.loc id).base+(i * ss.length+off)) yv.cells.toList).cell? ⟨(c.loc id).b,(c.loc id).base+(i * ss.length+off)+j,none⟩=yv.cells[j]?:=by
   intro j hj
   rw [World.cell?_setCells_in (c.loc id).b yv.cells.toList _ w (λ i hi=>by obtain ⟨u,hu,_⟩:=hthere i (by omega);simp [hu]) j (by omega)]
   have:j < yv.cells.size:=by omega
   simp [this]
  have hother:∀ b k,b≠(c.loc id).b→(w.setCells (c.loc id).b ((c.loc id).base+(i * ss.length+off)) yv.cells.toList).cell? ⟨b,k,none⟩=w.cell? ⟨b,k,none⟩:=λ b k hb =>
   World.cell?_setCells_out _ _ _ _ _ (λ h=>absurd h hb)
  have hsub:∀ b j,b < w.heap.size→(b=(c.loc id).b∧(c.loc id).base+(i * ss.length+off)≤j∧j < (c.loc id).base+(i * ss.length+off)+yv.cells.toList.length)→inR (c.loc id) b j:=by
   rintro b j _ ⟨rfl,h1,h2⟩
   have:=hin (j - ((c.loc id).base+(i * ss.length+off))) (by omega)
   exact .inl ⟨rfl,by omega⟩
  have hsame:=hr.sit.same hkeep λ b j hb d=>⟨id,_,ho,hsub b j hb d⟩
  have hpl:(put ks0 off ks).length=ss.length:=by rw [zlD _ _ _ (by omega)];exact hk0.1
  obtain ⟨hsit,_⟩:=hr.sit.upd (o':=.foc ss rows i (put ks0 off ks)) hkeep ho hsub (by
   refine ⟨g1,g0,λ j hj=>?_,⟨B,hB,hd,λ p q hp hq hq' u hpi hu=>?_⟩,hlt,hpl,λ q hq u hu=>?_⟩
   ·by_cases hin':i * ss.length+off≤j∧j < i * ss.length+off+e.size
    ·have:=hcells (j - (i * ss.length+off)) (by omega)
     rw [show (c.loc id).base+(i * ss.length+off)+(j - (i * ss.length+off))=(c.loc id).base+j by omega] at this
     have hlt:j - (i * ss.length+off) < yv.cells.size:=by omega
     refine ⟨yv.cells[j - (i * ss.length+off)],by rw [this];simp [hlt],?_⟩
     rw [World.frozen?_setCells]
     exact (g2 j hj).elim λ _ h=>h.2
    ·obtain ⟨u,hu,hz⟩:=g2 j hj
     refine ⟨u,?_,by rw [World.frozen?_setCells];exact hz⟩
     rw [World.cell?_setCells_out _ _ _ _ _ (λ _ _=>by simp only;omega)]
     exact hu
   ·have hne:¬ (i * ss.length+off≤p * ss.length+q∧p * ss.length+q < i * ss.length+off+e.size):=by
     rintro ⟨h1,h2⟩
     rcases Nat.lt_or_gt_of_ne hpi with h3 | h3
     ·have:(p+1) * ss.length≤i * ss.length:=qc _ h3
      rw [ql] at this;omega
     ·have:(i+1) * ss.length≤p * ss.length:=qc _ h3
      rw [ql] at this;omega
    rw [World.cell?_setCells_out _ _ _ _ _ (λ _ _=>by simp only;omega)] at hu
    exact (g3 p q hp hq hq' u hpi hu).mono (λ _ h=>h) λ b k hb=>hother b k (hB p q b hb).2
   ·have hq2:q < ss.length:=by omega
    by_cases hin':off≤q∧q < off+e.size
    ·have hc:=hcells (q - off) (by omega)
     rw [show (c.loc id).base+(i * ss.length+off)+(q - off)=(c.loc id).base+(i * ss.length+q) by omega] at hc
     rw [hc] at hu
     have he:(put ks0 off ks)[q]'hq=ks[q - off]'(by omega):=by
      have:=ztC ks0 off ks (by omega) (q - off) (by omega) (by rw [zlD _ _ _ (by omega)];omega)
      simpa [show off+(q - off)=q by omega] using this
     rw [he]
     exact (hv (q - off) (by omega) u hu).mono (.refl c) hsame
    ·rw [World.cell?_setCells_out _ _ _ _ _ (λ _ _=>by simp only;omega)] at hu
     rw [zrn ks0 off ks (by omega) q (by omega) (by omega)]
     exact (hk0.2 q (by omega) u hin' hu).mono (.refl c) hsame) (λ _=>rfl)
  refine ⟨.skip,_,c,undef,λ o ho'=>?_,.inr ⟨rfl,rfl⟩,.refl c,hr.nx,?_,hsame,.un _⟩
  ·unfold execOp
   rw [ho']
   simp only [hxv,hyv,Instr.storeAt,Instr.sureAddr,Sem.run_bind,Sem.run_pure,Result.andThen_ok]
   rw [hrun]
   rfl
  ·show Sit w0 W0 c (hp ((id,_) :: s.H)) _
   rw [zkD]
   exact hsit
end
end Go.TL
namespace Go.TL
open Go
theorem zpX {H:HL}:∀ (ss:List DSh) (l:List Value),znX H ss (l.map zlg)
 | [],l=>trivial
 | _ :: _,[]=>trivial
 | s :: ss,v :: l=>by
  refine ⟨?_,zpX ss l⟩
  unfold zpW
  split
  ·rename_i s' k a b c d e _ h
   exfalso
   revert h
   unfold zlg
   split<;>intro h<;>cases h
  ·trivial
theorem zvR {w0 w:World} {W0:Fr} {c:Ctx} {H:zkO} (s:Sit w0 W0 c H w) (T:TypeId) (vs:Array Value) {ss:List DSh} {ks:List LV} {r:List Leaf} {n:Nat} (hn:n=vs.size) (hn2:n=ss.length) (hr:r.length=ss.length) (hk:ks.length=ss.length)
  (hv:∀ j (hj:j < ks.length) v,vs[j]?=some v→Cv w c (ks[j]) v) :
  Sit w0 W0 (c.push (Loc.flat w.heap.size 0 n)) (upd H c.nx (some (true,.foc ss [r] 0 ks))) (w.alloc (.cells vs T))∧Same c w (w.alloc (.cells vs T)):=by
 subst hn
 have hs:=s.same (zma w (.cells vs T)) (λ _ _ _ h=>h.elim)
 refine s.push (zma w _) _ (λ _ _ h=>h) (λ _=>False) (λ _ h=>h.elim) (λ _ _ _ h=>h.elim) (λ b j hb=>.inl (by rw [(zlE hb).1];exact ⟨qd _,λ k'=>by simp⟩)) ?_ (λ _ h=>h.elim)
 refine ⟨by simp only [qg];omega,λ r' hr'=>by simp at hr';rw [hr'];exact hr,λ j hj=>?_,⟨λ _ _ _=>False,λ _ _ _ h=>h.elim,λ _ _ _ _ _ h=>h.elim,λ i j hi hj hj' v hi0 hv'=>by simp at hi;omega⟩,by simp,hk,λ j hj v hv'=>?_⟩
 ·have hj':j < vs.size:=hj
  exact ⟨vs[j],by simp [hj'],by simp⟩
 ·simp only [qh,qb,zlM] at hv'
  exact (hv j hj v hv').mono (c.le_push _) hs
theorem znH {w0 w w1:World} {W0:Fr} {c:Ctx} {H H':zkO} (s:Sit w0 W0 c H w) (k0:Keep (λ _ _=>False) w w1) (hs1:w1.heap.size=w.heap.size) (T:TypeId) (vs:Array Value) {fr:Bool} {ss:List DSh} {rows:List (List Leaf)} {p:Nat} {ks:List LV} {n:Nat} {o:Ob} (hn:n=vs.size)
  (hless:∀ i o,H' i=some o→H i=some o) (gone:Nat→Prop) (hgone:∀ i,gone i→H' i=none) {M:Nat→Prop} (hM:∀ x,M x→x < w.heap.size∧∃ i o,gone i∧H i=some o∧inR (c.loc i) x 0∧(o.1=false→fr=false))
  {B:Nat→Nat→Nat→Prop} (hB:∀ i j x,B i j x→M x) (hd:∀ i j i' j' x,B i j x→B i' j' x→i=i'∧j=j') (hlen:rows.length * ss.length≤n) (hl:∀ r∈rows,r.length=ss.length)
  (ho:(o=.deep ss rows∧p=rows.length)∨(o=.foc ss rows p ks∧p < rows.length∧ks.length=ss.length))
  (hc:∀ i j (hi:i < rows.length) (hj:j < (rows[i]).length) (hj':j < ss.length) v,i≠p→vs[i * ss.length+j]?=some v→RepD w (B i j) (ss[j]) v ((rows[i])[j]))
  (hk:∀ j (hj:j < ks.length) v,o=.foc ss rows p ks→vs[p * ss.length+j]?=some v→Cv w c (ks[j]) v) :
  Sit w0 W0 (c.push ⟨w.heap.size,0,n,M⟩) (upd H' c.nx (some (fr,o))) (w1.alloc (.cells vs T))∧Same c w (w1.alloc (.cells vs T)):=by
 subst hn
 have hkp:Keep (λ _ _=>False) w (w1.alloc (.cells vs T)):=k0.trans (zma w1 (.cells vs T)) λ _ _ _ h=>h.elim
 have hs:=s.same hkp (λ _ _ _ h=>h.elim)
 have hce:∀ j,(w1.alloc (.cells vs T)).cell? ⟨w.heap.size,j,none⟩=vs[j]?:=λ j=>by rw [← hs1];exact zlM w1 vs T j
 have hold:∀ b k,b < w.heap.size→(w1.alloc (.cells vs T)).cell? ⟨b,k,none⟩=w.cell? ⟨b,k,none⟩:=λ b k hb=>hkp.cell b k hb id
 have hth:∀ j,j < vs.size→∃ v,(w1.alloc (.cells vs T)).cell? ⟨w.heap.size,0+j,none⟩=some v∧(w1.alloc (.cells vs T)).frozen? ⟨w.heap.size,0+j,none⟩=false:=λ j hj=>by
  refine ⟨vs[j],by simp only [qb];rw [hce];simp [hj],?_⟩
  rw [← hs1]
  exact World.frozen?_alloc_new w1 vs T _
 have hrd:∀ i j (hi:i < rows.length) (hj:j < (rows[i]).length) (hj':j < ss.length) v,i≠p→(w1.alloc (.cells vs T)).cell? ⟨w.heap.size,0+(i * ss.length+j),none⟩=some v→RepD (w1.alloc (.cells vs T)) (B i j) (ss[j]) v ((rows[i])[j]):=by
  intro i j hi hj hj' v hip hv
  rw [qb,hce] at hv
  exact (hc i j hi hj hj' v hip hv).mono (λ _ h=>h) λ b k hb=>hold b k (hM b (hB i j b hb)).1
 have hBm:∀ i j x,B i j x→M x∧x≠w.heap.size:=λ i j x h=>⟨hB i j x h,by have:=(hM x (hB i j x h)).1;omega⟩
 refine s.push hkp _ hless gone hgone (λ _ _ _ h=>h.elim) (λ b j hb=>?_) ?_ (λ x hx=>⟨qj (hM x hx).1 hkp.size,by rcases ho with ⟨rfl,_⟩ | ⟨rfl,_⟩<;>rfl⟩)
 ·rcases hb with ⟨h1,_⟩ | hb
  ·left;rw [h1];exact ⟨qd _,λ k'=>by rw [← hs1];simp⟩
  ·obtain ⟨_,i,oi,g1,g2,g3,g4⟩:=hM b hb
   exact .inr ⟨i,oi,g1,g2,g3,g4⟩
 ·rcases ho with ⟨rfl,hp⟩ | ⟨rfl,hp,hkl⟩
  ·exact ⟨hlen,hl,hth,B,hBm,hd,λ i j hi hj hj' v hv=>hrd i j hi hj hj' v (by omega) hv⟩
  ·refine ⟨hlen,hl,hth,⟨B,hBm,hd,λ i j hi hj hj' v hip hv=>hrd i j hi hj hj' v hip hv⟩,hp,hkl,λ j hj v hv=>?_⟩
   have hv:(w1.alloc (.cells vs T)).cell? ⟨w.heap.size,0+(p * ss.length+j),none⟩=some v:=hv
   rw [qb,hce] at hv
   exact (hk j hj v rfl hv).mono (c.le_push _) hs
section
variable {P:Program} {s:St}
theorem zrO {t el:Nat} {e ee:TE} {x y:Operand} {k1 k2:IntKind} {n:Int} {ss:List DSh} {zl:List Leaf} (ht:OkT P t e) (hs:e.sh=.slice el) (he:OkT P el ee) (hzs:ee.zero.length=ee.size) (hss:ss.length=ee.size) (hz:zna [] ss (ee.zero.map zlg)=some (zl,[],true)) (hx:sc? (ev s.T x)=some (.int k1 n)) (hy:sc? (ev s.T y)=some (.int k2 n)) :
  Does P (.makeSlice t x y) s ⟨0≤n∧n * ee.bytes≤281474976710656∧n≤9223372036854775807,.os s.nx ee.size 0 n.toNat n.toNat true,(s.nx,some (true,.deep ss (List.replicate n.toNat zl))) :: s.H,s.nx+1⟩:=by
 intro w0 W0 cx a w hr ⟨h0,hbd,h63⟩
 have hx':=(zl3 hx (zkN hr x)).1
 have hy':=(zl3 hy (zkN hr y)).1
 obtain ⟨i,z,hi,h1,h2,h3,h4⟩:=he.info
 have hzc:z.cells.size=ee.size:=by rw [← hzs,← h4];simp
 have hrun:=run_make (P:=P) w t el i z (ht.slice hs) hi h3 k1 k2 n n h0 (Int.le_refl _) (by rw [h2,Int.mul_comm];exact hbd) h63
 rw [h1] at hrun
 have hsit0:Sit w0 W0 cx (hp []) w:=hr.sit.less λ i o h=>by simp [hp,zkm] at h
 obtain ⟨hzl,N,hN,hN2,_⟩:=zn8 hsit0 hz (zpX ss ee.zero)
 have hget:∀ k,k < n.toNat * ee.size→(madeCells z.cells (n.toNat * ee.size))[k]?=z.cells[k % ee.size]?:=by
  intro k hk
  have hp:0 < ee.size:=by
   rcases qo ee.size with h | h
   ·rw [h] at hk;simp at hk
   ·exact h
  have hm:=Nat.mod_lt k hp
  simp only [madeCells,hzc]
  simp [hk,hzc,hm]
 obtain ⟨hsit,hsame⟩:=znH (fr:=true) (n:=n.toNat * ee.size) (p:=(List.replicate n.toNat zl).length) (ks:=[]) (rows:=List.replicate n.toNat zl) (ss:=ss) (H':=hp s.H) (M:=λ _=>False) (B:=λ _ _ _=>False) hr.sit (Keep.refl _ w) rfl el (madeCells z.cells (n.toNat * ee.size)) (by rw [size_madeCells]) (λ _ _ h=>h) (λ _=>False) (λ _ h=>h.elim)
  (λ _ h=>h.elim) (λ _ _ _ h=>h.elim) (λ _ _ _ _ _ h=>h.elim) (by simp [hss]) (λ r hr=>by rw [List.mem_replicate] at hr;rw [hr.2];exact hzl) (.inl ⟨rfl,rfl⟩) (λ p q hp hq hq' v _ hv=>by
   have hp':p < n.toNat:=by simpa using hp
   have hlt:=zk1 hp' (by omega:q < ee.size)
   have hmod:(p * ee.size+q) % ee.size=q:=by rw [Nat.mul_comm,Nat.mul_add_mod,Nat.mod_eq_of_lt (by omega)]
   rw [hss,hget _ hlt,hmod] at hv
   have hzq:ee.zero[q]?=some v:=by rw [← h4];simpa using hv
   have hqz:q < ee.zero.length:=by omega
   rw [List.getElem?_eq_getElem hqz] at hzq
   have hpa:=(hN q hq' (by simpa using hqz) (by omega)).rep v (by rw [qbb];cases hzq;exact znC _ _ _)
   have:=hpa.mono (B2:=λ _=>False) (w':=w) (λ x hx=>by
    obtain ⟨m,o,e1,_⟩:=hx
    have:=(hN2 q m e1).2
    cases this) (λ _ _ _=>rfl)
   simpa using this) (λ j hj=>by simp at hj)
 refine ⟨.value (.slice (some ⟨w.heap.size,0,none⟩) n.toNat n.toNat),_,_,_,λ o ho=>?_,.inl rfl,cx.le_push ⟨w.heap.size,0,n.toNat * ee.size,λ _=>False⟩,by show cx.nx+1=s.nx+1;rw [hr.nx],?_,hsame,?_⟩
 ·unfold execOp
  rw [ho]
  simp only [hx',hy',Sem.run_bind,hrun,Result.andThen_ok,Sem.run_pure]
 ·show Sit w0 W0 _ (hp ((s.nx,_) :: s.H)) _
  rw [zkD,← hr.nx]
  exact hsit
 ·show Cv _ _ (.os s.nx ee.size 0 n.toNat n.toNat true) _
  rw [← hr.nx]
  refine .os (qf _) (qd _) (by omega) (λ _=>rfl) (.inr ?_) ?_
  ·rw [Ctx.push_loc];simp
  ·rw [Ctx.push_loc];simp
theorem zsK {t el:Nat} {e ee:TE} {x:Operand} {parts:Array (Nat×Operand)} {ss:List DSh} {ks:List LV} {r:List Leaf} (ht:OkT P t e) (hs:e.sh=.slice el) (he:OkT P el ee) (hp1:parts.toList=[(0,x)]) (hks:zlh (ev s.T x)=some ks) (hk:ks.length=ee.size) (hss:ss.length=ee.size) (hrl:r.length=ss.length)
  (hbd:ee.size≤16777216):Does P (.buildSlice t 1 parts) s ⟨True,.os s.nx ee.size 0 1 1 true,(s.nx,some (true,.foc ss [r] 0 ks)) :: s.H,s.nx+1⟩:=by
 intro w0 W0 cx a w hr _
 obtain ⟨z,hz,hzr⟩:=he.runZero
 obtain ⟨hn,hcv⟩:=zmD hks (zkN hr x)
 let base:Array Value:=(Array.range (1 * ee.size)).map ((if 1 * ee.size=0 then (#[]:Array Value) else z.cells)[· % (if 1 * ee.size=0 then (#[]:Array Value) else z.cells).size]!)
 have hbase:base.size=1 * ee.size:=by simp [base]
 let vparts:List (Nat×Value):=(parts.map λ (i,x)=>(i,a.eval x)).toList
 have hvp:vparts=[(0,a.eval x)]:=by simp [vparts,hp1]
 obtain ⟨r1,h1,h2,h3,_⟩:=zoP ee.size vparts 0 base (by rw [hvp];rfl) (λ p hp=>by
  rw [hvp] at hp
  simp only [List.mem_singleton] at hp
  subst hp
  simp only;omega) (by rw [hvp,hbase];simp)
 have hcs:∀ j (hj:j < ks.length) v,r1[j]?=some v→Cv w cx (ks[j]) v:=by
  intro j hj v hv
  have:=h3 0 (by rw [hvp];simp) j (by omega)
  simp only [qb,qh] at this
  rw [this] at hv
  have e0:(vparts[0]'(by rw [hvp];simp)).2=a.eval x:=by simp [hvp]
  rw [e0] at hv
  exact hcv j hj v hv
 obtain ⟨hsit,hsame⟩:=zvR (n:=1 * ee.size) (r:=r) (ss:=ss) (ks:=ks) hr.sit el r1 (by rw [h2,hbase]) (by omega) hrl (by omega) hcs
 refine ⟨.value (.slice (some ⟨w.heap.size,0,none⟩) 1 1),_,_,_,λ o ho=>?_,.inl rfl,cx.le_push (Loc.flat w.heap.size 0 (1 * ee.size)),by show cx.nx+1=s.nx+1;rw [hr.nx],?_,hsame,?_⟩
 ·unfold execOp
  rw [ho]
  have hnb:¬ (1 * ee.size > 2 ^ 24):=by omega
  have h1':Instr.fill (λ i=>some (i * ee.size,ee.size)) ((Array.range (1 * ee.size)).map λ x=>(if 1 * ee.size=0 then (#[]:Array Value) else z.cells)[x % (if 1 * ee.size=0 then (#[]:Array Value) else z.cells).size]!) (parts.map λ (i,x)=>(i,a.eval x)).toList=some r1:=h1
  simp only [Instr.buildSlice,Sem.run_bind,zkS (ht.slice hs),Result.andThen_ok,he.runSize,hnb,if_false]
  by_cases h0:1 * ee.size=0
  ·simp only [h0,if_true] at h1' ⊢
   simp only [Sem.run_bind,Sem.run_pure,Result.andThen_ok,h1',newRow,run_newObj,zmh]
  ·simp only [h0,if_false] at h1' ⊢
   simp only [Sem.run_bind,Sem.run_pure,hzr,Result.andThen_ok,h1',newRow,run_newObj,zmh]
 ·show Sit w0 W0 _ (hp ((s.nx,_) :: s.H)) _
  rw [zkD,← hr.nx]
  exact hsit
 ·show Cv _ _ (.os s.nx ee.size 0 1 1 true) _
  rw [← hr.nx]
  refine .os (qf _) (qd _) (by omega) (λ _=>rfl) (.inr ?_) ?_
  ·rw [Ctx.push_loc];simp
  ·rw [Ctx.push_loc];simp
end
end Go.TL
namespace Go.TL
open Go
section
variable {P:Program} {s:St}
theorem zsY {w:World} {c:Ctx} {L:Loc} {ss:List DSh} {r:List Leaf} {ks:List LV} (h:Holds w c L (.foc ss [r] 0 ks)) :
  ∃ cs:List Value,cs.length=1 * ss.length∧ks.length=ss.length∧(∀ j v,cs[j]?=some v→w.cell? ⟨L.b,L.base+j,none⟩=some v)∧∀ j (hj:j < ks.length) v,cs[j]?=some v→Cv w c (ks[j]) v:=by
 obtain ⟨g1,g0,g2,_,g4,g5,g6⟩:=h
 have g1:1 * ss.length≤L.n:=g1
 refine ⟨(List.range ss.length).map λ j=>(w.cell? ⟨L.b,L.base+j,none⟩).getD undef,by simp,g5,λ j v hv=>?_,λ j hj v hv=>?_⟩
 ·by_cases hlt:j < ss.length
  ·obtain ⟨u,hu,_⟩:=g2 j (by omega)
   simp [hlt,hu] at hv
   rw [← hv];exact hu
  ·rw [List.getElem?_eq_none (by simp;omega)] at hv;cases hv
 ·have hlt:j < ss.length:=by omega
  obtain ⟨u,hu,_⟩:=g2 j (by omega)
  have:v=u:=by simp [hlt,hu] at hv;exact hv.symm
  rw [this]
  exact g6 j hj u (by simpa using hu)
theorem zpC {c:Call} {x y:Operand} {t u el el2:Nat} {e e2 ee:TE} {idy esy mcy:Nat} {exy fry:Bool} {ss:List DSh} {r:List Leaf} {ks:List LV} (hc:c.callee=.builtin .append) (ha:c.args=#[x,y]) (hat:c.argTypes=#[t,u]) (ht:OkT P t e) (hs:e.sh=.slice el) (hu:OkT P u e2) (hs2:e2.sh=.slice el2) (he:OkT P el ee)
  (hb0:0 < ee.bytes) (hzs:ee.zero.length=ee.size) (hsz:0 < ee.size) (hss:ss.length=ee.size) (hx:ev s.T x=.nl) (hy:ev s.T y=.os idy esy 0 1 mcy exy) (hoy:hp s.H idy=some (fry,.foc ss [r] 0 ks)) :
  Does P (.call c) s ⟨ee.bytes≤140737488355328,.os s.nx ee.size 0 1 1 false,(s.nx,some (true,.foc ss [r] 0 ks)) :: s.H,s.nx+1⟩:=by
 intro w0 W0 cx a w hr hbd
 have hx':=zkN hr x
 rw [hx] at hx'
 have hy':=zkN hr y
 rw [hy] at hy'
 obtain ⟨i,z,hi,h1,h2,h3,h4⟩:=he.info
 have hHy:Holds w cx (cx.loc idy) (.foc ss [r] 0 ks):=(hr.sit.own _ _ hoy).2
 obtain ⟨cs,q1,q2,q3,q4⟩:=zsY hHy
 have hrl:r.length=ss.length:=hHy.2.1 r (by simp)
 generalize hxv:a.eval x=xv at hx'
 generalize hyv:a.eval y=yv at hy'
 cases hx' with
 | nl base =>
  cases hy' with
  | os hidy hly hmy hexy haay hny =>
   rename_i capy ay
   simp only [qh,qn,qb] at haay hny
   have hay:ay=some ⟨(cx.loc idy).b,(cx.loc idy).base,none⟩:=haay.resolve_left (by omega)
   have hzc:z.cells.size=i.size:=by rw [h1,← hzs,← h4];simp
   let G:=grownCap w (0+1) 0 el
   have hG:0+1≤G:=grownCap_ge w _ _ _
   have hG2:G≤9223372036854775807:=grownCap_le_maxLen w _ _ _ (by simp only [maxLen];omega)
   have hsize:(#[]++cs.toArray++Builtin.zeroCells z.cells (G - (0+1))).size=G * ee.size:=by
    simp only [qba,qp,size_zeroCells,hzc,h1,q1,hss,qp,qQ,qb]
    rw [← ql]
    congr 1
    omega
   have hle:1 * ee.size≤G * ee.size:=qc _ (by omega)
   have hget:∀ j v,j < ss.length→(#[]++cs.toArray++Builtin.zeroCells z.cells (G - (0+1)))[j]?=some v→cs[j]?=some v:=λ j v hj hv=>by
    rw [Array.getElem?_append_left (by simp;omega)] at hv
    simpa using hv
   obtain ⟨hsit,hsame⟩:=znH (fr:=true) (n:=G * ee.size) (p:=0) (ks:=ks) (rows:=[r]) (ss:=ss) (o:=.foc ss [r] 0 ks) (H':=hp s.H) (M:=λ _=>False) (B:=λ _ _ _=>False) hr.sit (zn7 w) rfl el (#[]++cs.toArray++Builtin.zeroCells z.cells (G - (0+1))) hsize.symm (λ _ _ h=>h) (λ _=>False) (λ _ h=>h.elim)
    (λ _ h=>h.elim) (λ _ _ _ h=>h.elim) (λ _ _ _ _ _ h=>h.elim) (by simp only [qg];omega) (λ r' hr'=>by simp at hr';rw [hr'];exact hrl) (.inr ⟨rfl,by simp,q2⟩) (λ p q hp hq hq' v hp0 hv=>by simp at hp;omega) (λ j hj v _ hv=>by
     rw [show 0 * ss.length+j=j by simp] at hv
     exact q4 j hj v (hget j v (by omega) hv))
   refine ⟨.value (.slice (some ⟨w.heap.size,0,none⟩) (0+1) G),_,_,_,λ o ho=>?_,.inl rfl,cx.le_push ⟨w.heap.size,0,G * ee.size,λ _=>False⟩,by show cx.nx+1=s.nx+1;rw [hr.nx],?_,hsame,?_⟩
   ·rw [zl0 ho hc ha hat,hxv,hyv]
    have:=zmo (P:=P) (ty:=o.type) (w:=w) (base:=base) (sLen:=0) (sCap:=0) (n:=1) (cap:=capy) (a:=ay) (olds:=[]) (news:=cs) (ht.slice hs) (hu.slice hs2) hi h3 (by simp) (λ h=>absurd rfl h) (by rw [h1,q1,hss]) (λ _=>⟨_,_,hay,q3⟩) (by omega) (by rw [h2];simpa using hbd) (by omega)
    rw [this]
    rfl
   ·show Sit w0 W0 _ (hp ((s.nx,_) :: s.H)) _
    rw [zkD,← hr.nx]
    exact hsit
   ·show Cv _ _ (.os s.nx ee.size 0 1 1 false) _
    rw [← hr.nx,qb]
    rw [qb] at hG
    refine .os (qf _) hG ⟨hG,hG2⟩ (λ h=>by cases h) (.inr ?_) ?_
    ·rw [Ctx.push_loc];simp
    ·rw [Ctx.push_loc];simp [G]
theorem zpD {c:Call} {x y:Operand} {t u el el2:Nat} {e e2 ee:TE} {idy esy mcy:Nat} {exy fry:Bool} {id es len mc:Nat} {ex fr:Bool} {ss:List DSh} {old:List (List Leaf)} {r:List Leaf} {ks:List LV} (hc:c.callee=.builtin .append) (ha:c.args=#[x,y]) (hat:c.argTypes=#[t,u]) (ht:OkT P t e) (hs:e.sh=.slice el) (hu:OkT P u e2) (hs2:e2.sh=.slice el2) (he:OkT P el ee)
  (hb0:0 < ee.bytes) (hzs:ee.zero.length=ee.size) (hsz:0 < ee.size) (hss:ss.length=ee.size) (hes0:ee.size=es) (hf:ks.all flat=true) (hx:ev s.T x=.os id es 0 len mc ex) (ho:hp s.H id=some (fr,.deep ss old)) (hlen:len=old.length) (hy:ev s.T y=.os idy esy 0 1 mcy exy) (hoy:hp s.H idy=some (fry,.foc ss [r] 0 ks)) :
  Does P (.call c) s ⟨(len+1) * ee.bytes≤140737488355328,.os s.nx es 0 (len+1) (len+1) false,(s.nx,some (fr,.foc ss (old++[r]) len ks)) :: (id,none) :: s.H,s.nx+1⟩:=by
 intro w0 W0 cx a w hr hbd
 have hx':=zkN hr x
 rw [hx] at hx'
 have hy':=zkN hr y
 rw [hy] at hy'
 obtain ⟨i,z,hi,h1,h2,h3,h4⟩:=he.info
 have hHy:Holds w cx (cx.loc idy) (.foc ss [r] 0 ks):=(hr.sit.own _ _ hoy).2
 obtain ⟨cs,q1,q2,q3,q4⟩:=zsY hHy
 have hrl:r.length=ss.length:=hHy.2.1 r (by simp)
 have hH:Holds w cx (cx.loc id) (.deep ss old):=(hr.sit.own _ _ ho).2
 obtain ⟨ds,B,d1,d2,hB,hd,d3⟩:=zvQ hH
 have hidlt:=(hr.sit.own _ _ ho).1
 subst hlen
 subst hes0
 have hne:idy≠id:=λ e=>by subst e;rw [ho] at hoy;cases hoy
 have hl0:∀ r'∈old++[r],r'.length=ss.length:=λ r' hr'=>by
  rcases List.mem_append.1 hr' with h | h
  ·exact hH.2.1 r' h
  ·simp at h;rw [h];exact hrl
 have hMx:∀ x,(cx.loc id).more x→x < w.heap.size∧∃ i o,i=id∧hp s.H i=some o∧inR (cx.loc i) x 0∧(o.1=false→fr=false):=λ x hx=>⟨(hr.sit.mo id _ ho x hx).1,id,_,rfl,ho,.inr hx,λ h=>h⟩
 have hone:∀ v∈cs,v.oneCell'=true:=by
  intro v hv
  obtain ⟨j,hj,rfl⟩:=qw hv
  have hj':j < ks.length:=by omega
  exact (znl (by rw [qi] at hf;exact hf _ (qa hj')) (q4 j hj' _ (List.getElem?_eq_getElem hj))).1
 have hgl:∀ j o,(upd (hp s.H) id none) j=some o→hp s.H j=some o:=λ j o hj=>by
  by_cases e:j=id
  ·subst e;rw [zlf] at hj;cases hj
  ·rw [zle _ _ e] at hj;exact hj
 have hbytes:old.length+1≤(old.length+1) * ee.bytes:=Nat.le_mul_of_pos_right _ hb0
 generalize hxv:a.eval x=xv at hx'
 generalize hyv:a.eval y=yv at hy'
 cases hx' with
 | os hid hl hm hex haa hn =>
  rename_i cap base
  simp only [qh,qn,qb] at haa hn
  cases hy' with
  | os hidy hly hmy hexy haay hny =>
   rename_i capy ay
   simp only [qh,qn,qb] at haay hny
   have hay:ay=some ⟨(cx.loc idy).b,(cx.loc idy).base,none⟩:=haay.resolve_left (by omega)
   have hsplit:∀ {p q:Nat} (hp:p < (old++[r]).length) (hq:q < ((old++[r])[p]).length),p≠old.length→∃ (hp':p < old.length) (hq':q < (old[p]).length),((old++[r])[p])[q]=(old[p])[q]:=by
    intro p q hp hq hne'
    have hp':p < old.length:=by simp at hp;omega
    refine ⟨hp',by rw [qq hp'] at hq;exact hq,?_⟩
    apply Option.some.inj
    rw [← List.getElem?_eq_getElem,← List.getElem?_eq_getElem,qq hp']
   by_cases hroom:old.length+1≤cap
   ·-- in place
    obtain ⟨g1,g0,g2,_⟩:=hH
    have hadd:old.length * ee.size+1 * ee.size≤cap * ee.size:=by rw [← ql];exact qc _ hroom
    have hcl:cs.length=ee.size:=by omega
    have hcell:∀ j,j < cs.length→(w.cell? ⟨(cx.loc id).b,(cx.loc id).base+(old.length * ee.size+j),none⟩).isSome=true∧w.frozen? ⟨(cx.loc id).b,(cx.loc id).base+(old.length * ee.size+j),none⟩=false:=by
     intro j hj
     obtain ⟨v,hv,hf⟩:=g2 (old.length * ee.size+j) (by omega)
     exact ⟨by simp [hv],hf⟩
    have hbase:base=some ⟨(cx.loc id).b,(cx.loc id).base,none⟩:=haa.resolve_left (by omega)
    have hkeep:=keep_setCells w (cx.loc id).b ((cx.loc id).base+old.length * ee.size) cs
    have hsub:∀ b j,(b=(cx.loc id).b∧(cx.loc id).base+old.length * ee.size≤j∧j < (cx.loc id).base+old.length * ee.size+cs.length)→inR (cx.loc id) b j:=by
     rintro b j ⟨rfl,_,_⟩
     exact .inl ⟨rfl,by omega⟩
    have hsame:=hr.sit.same hkeep λ b j _ d=>⟨id,_,ho,hsub b j d⟩
    have hother:∀ b k,b≠(cx.loc id).b→(w.setCells (cx.loc id).b ((cx.loc id).base+old.length * ee.size) cs).cell? ⟨b,k,none⟩=w.cell? ⟨b,k,none⟩:=λ b k hb=>World.cell?_setCells_out _ _ _ _ _ (λ h=>absurd h hb)
    have hin:∀ j,j < cs.length→(w.setCells (cx.loc id).b ((cx.loc id).base+old.length * ee.size) cs).cell? ⟨(cx.loc id).b,(cx.loc id).base+(old.length * ee.size+j),none⟩=cs[j]?:=by
     intro j hj
     have:=World.cell?_setCells_in (cx.loc id).b cs ((cx.loc id).base+old.length * ee.size) w (λ q hq=>by have:=(hcell q hq).1;rw [← qv] at this;exact this) j hj
     rw [← qv]
     simpa [List.getElem?_eq_getElem hj] using this
    have hout:∀ j,¬ (old.length * ee.size≤j∧j < old.length * ee.size+cs.length)→(w.setCells (cx.loc id).b ((cx.loc id).base+old.length * ee.size) cs).cell? ⟨(cx.loc id).b,(cx.loc id).base+j,none⟩=w.cell? ⟨(cx.loc id).b,(cx.loc id).base+j,none⟩:=by
     intro j hj
     exact World.cell?_setCells_out _ _ _ _ _ (λ _ _=>by simp only;omega)
    obtain ⟨hsit,_⟩:=hr.sit.push (H':=upd (hp s.H) id none) (fr:=fr) (o:=.foc ss (old++[r]) old.length ks) hkeep ⟨(cx.loc id).b,(cx.loc id).base,cap * ee.size,(cx.loc id).more⟩ hgl (λ j=>j=id) (λ j hj=>by subst hj;exact zlf _ _ _)
     (λ b j _ d=>⟨id,_,rfl,ho,hsub b j d⟩) (λ b j hb=>.inr ⟨id,_,rfl,ho,by
      rcases hb with ⟨h1,h2⟩ | hb
      ·exact .inl ⟨h1,by have h2:0 < cap * ee.size:=h2;omega⟩
      ·exact .inr hb,λ h=>h⟩) (by
     refine ⟨by simp only [qM,qg,hss];exact qc _ hroom,hl0,λ j hj=>?_,⟨B,hB,hd,λ p q hp hq hq' v hip hv=>?_⟩,by simp,q2,λ j hj v hv=>?_⟩
     ·have hj:j < cap * ee.size:=hj
      obtain ⟨v,hv,hf⟩:=g2 j (by omega)
      by_cases hjn:old.length * ee.size≤j∧j < old.length * ee.size+cs.length
      ·refine ⟨cs[j - old.length * ee.size]'(by omega),?_,by rw [World.frozen?_setCells];exact hf⟩
       have:=hin (j - old.length * ee.size) (by omega)
       rw [show old.length * ee.size+(j - old.length * ee.size)=j by omega] at this
       simp only
       rw [this]
       exact List.getElem?_eq_getElem _
      ·exact ⟨v,(hout j hjn).trans hv,by rw [World.frozen?_setCells];exact hf⟩
     ·obtain ⟨hp',hq2,he⟩:=hsplit hp hq hip
      have hlt:=zk1 hp' hq'
      simp only at hv
      rw [hout _ (by rw [hss] at hlt ⊢;omega)] at hv
      rw [he]
      exact (d3 p q hp' hq2 hq' v (by
       have hdl:p * ss.length+q < ds.length:=by omega
       have:=d2 _ _ (List.getElem?_eq_getElem hdl)
       rw [this] at hv
       cases hv
       exact List.getElem?_eq_getElem hdl)).mono (λ _ h=>h) λ b k hb=>hother b k (hB p q b hb).2
     ·simp only at hv
      rw [hss,hin j (by omega)] at hv
      exact (q4 j hj v hv).mono (cx.le_push _) hsame) (λ x hx=>⟨qj (hMx x hx).1 hkeep.size,rfl⟩)
    refine ⟨.value (.slice base (old.length+1) cap),_,_,_,λ o ho'=>?_,.inl rfl,cx.le_push ⟨(cx.loc id).b,(cx.loc id).base,cap * ee.size,(cx.loc id).more⟩,by show cx.nx+1=s.nx+1;rw [hr.nx],?_,hsame,?_⟩
    ·rw [zl0 ho' hc ha hat,hxv,hyv]
     have:=zmO (P:=P) (ty:=o.type) (w:=w) (base:=base) (sLen:=old.length) (sCap:=cap) (n:=1) (cap:=capy) (a:=ay) (news:=cs) (b:=(cx.loc id).b) (o:=(cx.loc id).base) (ht.slice hs) (hu.slice hs2) hi (by rw [h1,q1,hss]) (λ _=>⟨_,_,hay,q3⟩) hroom (λ _=>hbase)
      (λ j hj=>by rw [h1];exact hcell j hj) hone
     rw [this,h1]
     rfl
    ·show Sit w0 W0 _ (hp ((s.nx,_) :: (id,none) :: s.H)) _
     rw [zkD,zkD,← hr.nx]
     exact hsit
    ·show Cv _ _ (.os s.nx ee.size 0 (old.length+1) (old.length+1) false) _
     rw [← hr.nx]
     refine .os (qf _) hroom (by omega) (λ h=>by cases h) ?_ ?_
     ·rw [Ctx.push_loc];exact .inr (by rw [hbase];simp)
     ·rw [Ctx.push_loc];simp
   ·-- a new block
    have hzc:z.cells.size=i.size:=by rw [h1,← hzs,← h4];simp
    let G:=grownCap w (old.length+1) cap el
    have hG:old.length+1≤G:=grownCap_ge w _ _ _
    have hG2:G≤9223372036854775807:=grownCap_le_maxLen w _ _ _ (by simp only [maxLen];omega)
    have hsize:(ds.toArray++cs.toArray++Builtin.zeroCells z.cells (G - (old.length+1))).size=G * ee.size:=by
     simp only [qba,qp,size_zeroCells,hzc,h1,d1,q1,hss]
     rw [← ql,← ql]
     congr 1
     omega
    have hle:(old.length+1) * ee.size≤G * ee.size:=qc _ hG
    have hget1:∀ j v,j < ds.length→(ds.toArray++cs.toArray++Builtin.zeroCells z.cells (G - (old.length+1)))[j]?=some v→ds[j]?=some v:=λ j v hj hv=>by
     rw [Array.getElem?_append_left (by simp;omega),Array.getElem?_append_left (by simpa using hj)] at hv
     simpa using hv
    have hget2:∀ j v,j < cs.length→(ds.toArray++cs.toArray++Builtin.zeroCells z.cells (G - (old.length+1)))[ds.length+j]?=some v→cs[j]?=some v:=λ j v hj hv=>by
     rw [Array.getElem?_append_left (by simp;omega),Array.getElem?_append_right (by simp)] at hv
     simpa using hv
    obtain ⟨hsit,hsame⟩:=znH (fr:=fr) (n:=G * ee.size) (p:=old.length) (ks:=ks) (rows:=old++[r]) (ss:=ss) (o:=.foc ss (old++[r]) old.length ks) (H':=upd (hp s.H) id none) (M:=(cx.loc id).more) (B:=B) hr.sit (zn7 w) rfl el (ds.toArray++cs.toArray++Builtin.zeroCells z.cells (G - (old.length+1))) hsize.symm hgl (λ j=>j=id) (λ j hj=>by subst hj;exact zlf _ _ _)
     hMx (λ i j x h=>(hB i j x h).1) hd (by simp only [qM,qg,hss];exact hle) hl0 (.inr ⟨rfl,by simp,q2⟩) (λ p q hp hq hq' v hip hv=>by
      obtain ⟨hp',hq2,he⟩:=hsplit hp hq hip
      have hlt:=zk1 hp' hq'
      rw [he]
      exact d3 p q hp' hq2 hq' v (hget1 _ v (by omega) hv)) (λ j hj v _ hv=>q4 j hj v (hget2 j v (by omega) (by rw [d1];exact hv)))
    refine ⟨.value (.slice (some ⟨w.heap.size,0,none⟩) (old.length+1) G),_,_,_,λ o ho'=>?_,.inl rfl,cx.le_push ⟨w.heap.size,0,G * ee.size,(cx.loc id).more⟩,by show cx.nx+1=s.nx+1;rw [hr.nx],?_,hsame,?_⟩
    ·rw [zl0 ho' hc ha hat,hxv,hyv]
     have:=zmo (P:=P) (ty:=o.type) (w:=w) (base:=base) (sLen:=old.length) (sCap:=cap) (n:=1) (cap:=capy) (a:=ay) (olds:=ds) (news:=cs) (ht.slice hs) (hu.slice hs2) hi h3 (by rw [h1,d1,hss])
      (λ h0=>⟨_,_,haa.resolve_left (by omega),d2⟩) (by rw [h1,q1,hss]) (λ _=>⟨_,_,hay,q3⟩) (by omega) (by rw [h2];exact hbd) (by omega)
     rw [this]
     rfl
    ·show Sit w0 W0 _ (hp ((s.nx,_) :: (id,none) :: s.H)) _
     rw [zkD,zkD,← hr.nx]
     exact hsit
    ·show Cv _ _ (.os s.nx ee.size 0 (old.length+1) (old.length+1) false) _
     rw [← hr.nx]
     refine .os (qf _) hG (by omega) (λ h=>by cases h) (.inr ?_) ?_
     ·rw [Ctx.push_loc];simp
     ·rw [Ctx.push_loc];simp [G]
end
end Go.TL
namespace Go.TL
open Go
theorem zrP:∀ (ss:List DSh) (ks:List LV),znX [] ss ks
 | [],_=>trivial
 | _ :: _,[]=>trivial
 | s :: ss,k :: ks=>by
  refine ⟨?_,zrP ss ks⟩
  unfold zpW
  split
  ·simp [hp,zkm]
  ·trivial
def LV.isN:LV→Bool
 | .nl=>true
 | .lf _ (.sc _)=>true
 | _=>false
def zlO (T:List (Nat×LV)) (ss:List DSh) (es:Nat):List (Nat×Operand)→Option (List (List Leaf))
 | []=>some []
 | (_,x) :: r=>match zlh (ev T x),zlO T ss es r with
  | some ks,some rows=>if ks.all LV.isN=true then (if ks.length=es then (match zna [] ss ks with
   | some (ls,[],_)=>some (ls :: rows)
   | _=>none) else none) else none
  | _,_=>none
section
variable {P:Program} {s:St}
theorem zrQ {w0 w:World} {W0:Fr} {c:Ctx} {a:Act} (hr:Rel w0 W0 c s a w) {es:Nat} {ss:List DSh} (hss:ss.length=es):∀ {l:List (Nat×Operand)} {rows:List (List Leaf)},zlO s.T ss es l=some rows →
  rows.length=l.length∧(∀ r∈rows,r.length=ss.length)∧(∀ p∈l,(a.eval p.2).cells.size=es)∧∀ i (hi:i < l.length) (hi':i < rows.length) j (hj:j < (rows[i]).length) (hj':j < ss.length) v,(a.eval (l[i]).2).cells[j]?=some v→RepD w (λ _=>False) (ss[j]) v ((rows[i])[j])
 | [],rows,h=>by cases h;exact ⟨rfl,λ r hr=>by simp at hr,λ p hp=>by simp at hp,λ i hi=>by simp at hi⟩
 | (k,x) :: r,rows,h=>by
  unfold zlO at h
  split at h
  ·rename_i ks rows' h1 h2
   split at h
   rotate_left
   ·cases h
   split at h
   ·rename_i hes
    split at h
    ·rename_i ls f h3
     cases h
     obtain ⟨g1,g2,g3,g4⟩:=zrQ hr hss h2
     obtain ⟨c1,c2⟩:=zmD h1 (zkN hr x)
     have hsit0:Sit w0 W0 c (hp []) w:=hr.sit.less λ i o h=>by simp [hp,zkm] at h
     obtain ⟨hzl,N,hN,hN2,_⟩:=zn8 hsit0 h3 (zrP ss ks)
     refine ⟨by simp [g1],λ r hr=>?_,λ p hp=>?_,λ i hi hi' j hj hj' v hv=>?_⟩
     ·rcases List.mem_cons.1 hr with rfl | hr
      ·exact hzl
      ·exact g2 _ hr
     ·rcases List.mem_cons.1 hp with rfl | hp
      ·simp only;omega
      ·exact g3 _ hp
     ·cases i with
      | zero =>
       simp only [List.getElem_cons_zero] at hj hv ⊢
       have hpa:=(hN j hj' (by omega) hj).rep v (c2 j (by omega) v hv)
       exact hpa.mono (B2:=λ _=>False) (w':=w) (λ x hx=>by
        obtain ⟨m,o,e1,_⟩:=hx
        have:=(hN2 j m e1).2
        cases this) (λ _ _ _=>rfl)
      | succ i =>
       simp only [qk] at hj hv ⊢
       exact g4 i (by simpa using hi) (by simpa using hi') j hj hj' v hv
    ·cases h
   ·cases h
  ·cases h
theorem zrf {t el:Nat} {e ee:TE} {len:Nat} {parts:Array (Nat×Operand)} {ss:List DSh} {rows:List (List Leaf)} (ht:OkT P t e) (hs:e.sh=.slice el) (he:OkT P el ee) (hss:ss.length=ee.size) (hpr:zlO s.T ss ee.size parts.toList=some rows) (hidx:parts.toList.map (·.1)=List.range len)
  (hbd:len * ee.size≤16777216∧len≤16777216):Does P (.buildSlice t len parts) s ⟨True,.os s.nx ee.size 0 len len true,(s.nx,some (true,.deep ss rows)) :: s.H,s.nx+1⟩:=by
 intro w0 W0 cx a w hr _
 obtain ⟨g1,g2,g3,g4⟩:=zrQ hr hss hpr
 obtain ⟨z,hz,hzr⟩:=he.runZero
 have hlen:parts.toList.length=len:=by have:=congrArg List.length hidx;simpa using this
 let base:Array Value:=(Array.range (len * ee.size)).map ((if len * ee.size=0 then (#[]:Array Value) else z.cells)[· % (if len * ee.size=0 then (#[]:Array Value) else z.cells).size]!)
 have hbase:base.size=len * ee.size:=by simp [base]
 let vparts:List (Nat×Value):=(parts.map λ (i,x)=>(i,a.eval x)).toList
 have hvp:vparts=parts.toList.map λ p=>(p.1,a.eval p.2):=by simp [vparts]
 have hvl:vparts.length=len:=by rw [hvp];simpa using hlen
 obtain ⟨r,h1,h2,h3,_⟩:=zoP ee.size vparts 0 base (by rw [hvl,← List.range_eq_range',hvp,← hidx];simp) (λ p hp=>by
  rw [hvp,List.mem_map] at hp
  obtain ⟨q,hq,rfl⟩:=hp
  exact g3 q hq) (by rw [qb,hvl,hbase];exact qd _)
 have hrl:rows.length=len:=by rw [g1,hlen]
 obtain ⟨hsit,hsame⟩:=znH (fr:=true) (n:=len * ee.size) (p:=rows.length) (ks:=[]) (rows:=rows) (ss:=ss) (H':=hp s.H) (M:=λ _=>False) (B:=λ _ _ _=>False) hr.sit (Keep.refl _ w) rfl el r (by rw [h2,hbase]) (λ _ _ h=>h) (λ _=>False) (λ _ h=>h.elim)
  (λ _ h=>h.elim) (λ _ _ _ h=>h.elim) (λ _ _ _ _ _ h=>h.elim) (by rw [hrl,hss];exact qd _) g2 (.inl ⟨rfl,rfl⟩) (λ i j hi hj hj' v _ hv=>by
   have:=h3 i (by omega) j (by omega)
   rw [qb,← hss] at this
   rw [this] at hv
   have hgi:(vparts[i]'(by omega)).2=a.eval (parts.toList[i]'(by omega)).2:=by simp [hvp]
   rw [hgi] at hv
   exact g4 i (by omega) hi j hj hj' v hv) (λ j hj=>by simp at hj)
 refine ⟨.value (.slice (some ⟨w.heap.size,0,none⟩) len len),_,_,_,λ o ho=>?_,.inl rfl,cx.le_push ⟨w.heap.size,0,len * ee.size,λ _=>False⟩,by show cx.nx+1=s.nx+1;rw [hr.nx],?_,hsame,?_⟩
 ·unfold execOp
  rw [ho]
  have hnb:¬ (len * ee.size > 2 ^ 24):=by have:=hbd.1;omega
  have h1':Instr.fill (λ i=>some (i * ee.size,ee.size)) ((Array.range (len * ee.size)).map λ x=>(if len * ee.size=0 then (#[]:Array Value) else z.cells)[x % (if len * ee.size=0 then (#[]:Array Value) else z.cells).size]!) (parts.map λ (i,x)=>(i,a.eval x)).toList=some r:=h1
  simp only [Instr.buildSlice,Sem.run_bind,zkS (ht.slice hs),Result.andThen_ok,he.runSize,hnb,if_false]
  by_cases h0:len * ee.size=0
  ·simp only [h0,if_true] at h1' ⊢
   simp only [Sem.run_bind,Sem.run_pure,Result.andThen_ok,h1',newRow,run_newObj,zmh]
  ·simp only [h0,if_false] at h1' ⊢
   simp only [Sem.run_bind,Sem.run_pure,hzr,Result.andThen_ok,h1',newRow,run_newObj,zmh]
 ·show Sit w0 W0 _ (hp ((s.nx,_) :: s.H)) _
  rw [zkD,← hr.nx]
  exact hsit
 ·show Cv _ _ (.os s.nx ee.size 0 len len true) _
  rw [← hr.nx]
  refine .os (qf _) (qd _) (by omega) (λ _=>rfl) (.inr ?_) ?_
  ·rw [Ctx.push_loc];simp
  ·rw [Ctx.push_loc];simp
end
end Go.TL

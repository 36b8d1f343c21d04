import Derived.Test.YteonagfnhdlfcaaGreatDoorG39TlDelCr6zD
import Derived.Test.YteonagfnhdlfcaaGreatDoorTlStep
open List renaming length_append → qM, length_map → qO, length_cons → qP, length_nil → qQ, eq_nil_of_length_eq_zero → qb, ext_getElem → qi, filter_map → qj
open Nat renaming lt_of_lt_of_le → qa, eq_zero_or_pos → qc, add_zero → qd, zero_add → qe, le_trans → qf, le_refl → qg, mul_one → qh, zero_mul → qk
set_option linter.unusedSimpArgs false
set_option linter.unusedVariables false
noncomputable section
namespace Go.TL
open Go Go.Shelf Go.Proofs Go.RowKit
variable {β:Type}
theorem zx4 {w:World} {F:zkF} {loc:Nat→Loc} (hF:∀ b k,F b k→b < w.heap.size):Sit w (frm (rng loc (hp []))) (zm6 F loc 0) (hp []) w where
 keep:=Keep.refl _ w
 own id o h:=by cases h
 dis i j oi oj h:=by cases h
 sep id o h:=by cases h
 old b k h:=⟨hF b k h,λ ⟨_,_,e,_⟩=>by cases e⟩
 new b k h:=h.elim
 res b k v h:=by cases h
 pl id o h:=by cases h
 mo id o h:=by cases h
theorem zvk {w w':World} {blk off n:Nat} {d:Array Value} (h:Row w blk off n d w'):Keep (λ x k=>x=blk∧off≤k∧k < off+n∨(n=0∧x=blk)) w w' where
 os:=h.os
 tape:=h.tape
 output:=h.output
 size:=h.size
 cell b k hb hd:=by
  by_cases e:b=blk
  ·subst e
   exact h.cell k (by
    rcases Nat.lt_or_ge k off with h1 | h1
    ·exact .inl h1
    ·refine .inr (Nat.le_of_not_lt λ h2=>hd (.inl ⟨rfl,h1,h2⟩)))
  ·unfold World.cell?;rw [h.block b hb e]
 frz b k hb:=by
  by_cases e:b=blk
  ·subst e;exact h.frz k
  ·unfold World.frozen?;rw [h.block b hb e]
 blk b hb hd:=h.block b hb λ e=>by
  rcases qc n with h0 | h0
  ·exact hd off (.inr ⟨h0,e⟩)
  ·exact hd off (.inl ⟨e,qg _,by omega⟩)
 dr:=h.dr
theorem zsj {w:World} {B:Nat→Prop} {ts:List DSh} {v:Value} {x:Leaf} (h:RepD w B (.sl ts) v x):∃ (rows:List (List Leaf)) (a:Option Addr) (cap:Nat),v=.slice a rows.length cap∧x=.sl rows∧rows.length≤cap∧(cap=0∨∃ b base,a=some ⟨b,base,none⟩∧B b):=by
 cases h with
 | sl cs B' hcap ha hn hn0 hl hc hv hB hd hr=>exact ⟨_,_,_,rfl,rfl,hcap.1,ha.imp id λ h=>⟨_,_,h.1,h.2⟩⟩
theorem zx5 {w:World} {B B2:Nat→Prop} {ts:List DSh} {v:Value} {x y:Leaf} (h1:RepD w B (.sl ts) v x) (h2:RepD w B2 (.sl ts) v y) (hd:∀ b,B b→B2 b→False):x=y:=by
 obtain ⟨r1,a1,c1,e1,rfl,l1,q1⟩:=zsj h1
 obtain ⟨r2,a2,c2,e2,rfl,l2,q2⟩:=zsj h2
 rw [e1] at e2
 simp only [Value.slice.injEq] at e2
 obtain ⟨ea,el,ec⟩:=e2
 have h0:r1=[]:=by
  rcases q1 with q1 | ⟨b,o,g1,g2⟩
  ·exact qb (by omega)
  ·rcases q2 with q2 | ⟨b',o',g1',g2'⟩
   ·exact qb (by omega)
   ·rw [g1,g1'] at ea
    simp only [Option.some.injEq,Addr.mk.injEq] at ea
    exact (hd b g2 (by rw [ea.1];exact g2')).elim
 have h0':r2=[]:=qb (by rw [← el,h0];rfl)
 rw [h0,h0']
theorem zBr {w:World} {c:Ctx} {id off:Nat} {v:Value} (h:Cv w c (.pb id off) v):v=.pointer (some ⟨(c.loc id).b,(c.loc id).base+off,none⟩):=by
 cases h;rfl
theorem zAY {ts:List DSh} {E:β→List Leaf} {X:β→Leaf} (hE:∀ x,E x=[X x]) {p:β→Bool} (hpX:∀ x y,X x=X y→p x=p y) {g:Nat} (eg:∀ args w,(callFunc g args).run Tryz.prog w=.ok (.enter g args) w) {l:List β} {Y:Leaf} {fb tb:Bool}
  (hp:∀ x∈l,∃ nx,Fn Tryz.prog g [.ag [.lf true (X x)],.ra true [Y]] [] 0 (.lf false (.sc (.bool (p x)))) [] nx)
  {x0:Bool} {m0:Nat} (hlen:l.length≤9223372036854775807) :
  Fn Tryz.prog 217 [.os 0 1 0 l.length m0 x0,.fn g [.pb 1 0]] [(0,some (false,.deep [.sl ts] (l.map E))),(1,some (fb,.box [.lf tb Y]))] 2 (.os 0 1 0 (l.filter λ x=>!p x).length (l.filter λ x=>!p x).length false)
   [(0,some (false,.deep [.sl ts] ((l.filter λ x=>!p x).map E))),(1,some (fb,.box [.lf tb Y]))] 2:=by
 refine ⟨Ent.of Tryz.func217 rfl (by simp [Tryz.f217]),λ w F loc vs hsit hvs hv=>?_⟩
 obtain ⟨u0,e0,c0⟩:=hv 0 (by simp)
 obtain ⟨u1,e1,c1⟩:=hv 1 (by simp)
 have hvs':vs=#[u0,u1]:=by
  simp only [qP,qQ] at hvs
  refine Array.ext (by simpa using hvs) λ i h1 h2=>?_
  have hi:i=0∨i=1:=by omega
  rcases hi with rfl | rfl
  ·rw [Array.getElem?_eq_getElem h1] at e0;cases e0;rfl
  ·rw [Array.getElem?_eq_getElem h1] at e1;cases e1;rfl
 subst hvs'
 have hH0:Holds w (zm6 F loc 2) (loc 0) (.deep [.sl ts] (l.map E)):=(hsit.own 0 (_,_) (by rfl)).2
 have hH1:Holds w (zm6 F loc 2) (loc 1) (.box [.lf tb Y]):=(hsit.own 1 (_,_) (by rfl)).2
 have hf:u1=.func (.func g) #[] #[.pointer (some ⟨(loc 1).b,(loc 1).base+0,none⟩)]:=by
  cases c1 with
  | fn cs hn hv2 h =>
   rename_i vs2
   have h2:=h 0 (by simp)
   have h3:=hv2 0 (by simp)
   have h1:vs2.size=1:=by simpa using hn
   rw [zBr h2] at h3
   congr 1
   refine Array.ext (by simpa using h1) λ i g1 g2=>?_
   have:i=0:=by omega
   subst this
   rw [Array.getElem?_eq_getElem g1] at h3
   exact Option.some.inj h3
 subst hf
 cases c0 with
 | os hid0 hl0 hm0 hx0 ha0 hn0 =>
  rename_i cap0 a0
  rcases qc l.length with hz | h0
  ·have hl:l=[]:=List.length_eq_zero_iff.1 hz
   subst hl
   exact (Tryz.del217_empty a0 cap0 g _ w).mono λ e w' ⟨he,hw⟩=>⟨_,_,he,.refl _,rfl,by rw [hw];exact hsit,.os hid0 hl0 ⟨Nat.zero_le _,hm0.2⟩ (λ h=>by cases h) ha0 hn0⟩
  have ha0':=ha0.resolve_left (by omega)
  simp only [qk,qd] at ha0'
  have ha0':a0=some ⟨(loc 0).b,(loc 0).base,none⟩:=ha0'
  subst ha0'
  obtain ⟨g1,g0,g2,B,b1,b2,b3⟩:=id hH0
  simp only [qO,qP,qQ,qe,qh] at g1
  have hcell:∀ i:Fin l.length,∃ v,w.cell? ⟨(loc 0).b,(loc 0).base+i.1,none⟩=some v∧w.frozen? ⟨(loc 0).b,(loc 0).base+i.1,none⟩=false:=λ i=>g2 i.1 (qa i.2 g1)
  obtain ⟨hd,hhd⟩:∃ hd:Fin l.length→Value,∀ i,w.cell? ⟨(loc 0).b,(loc 0).base+i.1,none⟩=some (hd i)∧w.frozen? ⟨(loc 0).b,(loc 0).base+i.1,none⟩=false:=⟨λ i=>(hcell i).choose,λ i=>(hcell i).choose_spec⟩
  have hrep:∀ i:Fin l.length,RepD w (B i.1 0) (.sl ts) (hd i) (X l[i.1]):=λ i=>by
   have:=b3 i.1 0 (by simp) (by simp [hE]) (by simp) (hd i) (by simpa using (hhd i).1)
   simpa [hE] using this
  have hblk:(loc 0).b < w.heap.size:=zlz (hhd ⟨0,h0⟩).1
  have hBlt:∀ i x,B i 0 x→x < w.heap.size:=λ i x h=>(hsit.mo 0 (_,_) (by rfl) x (b1 i 0 x h).1).1
  have hds:(Array.ofFn hd).size=l.length:=by simp
  have hdj:∀ j (hj:j < l.length),(Array.ofFn hd)[j]! = hd ⟨j,hj⟩:=λ j hj=>by rw [getElem!_pos _ j (by rw [hds];exact hj)];simp
  have hsame:∀ i j:Fin l.length,hd i=hd j→p l[i.1]=p l[j.1]:=λ i j e=>by
   by_cases hij:i=j
   ·rw [hij]
   ·refine hpX _ _ (zx5 (hrep i) (by rw [e];exact hrep j) λ b hb1 hb2=>hij (Fin.ext (b2 _ _ _ _ b hb1 hb2).1))
  obtain ⟨p',hp'⟩:∃ p':Value→Bool,∀ i,p' (hd i)=p l[i.1]:=by
   refine ⟨λ v=>@decide (∃ i,hd i=v∧p l[i.1]=true) (Classical.propDecidable _),λ i=>?_⟩
   cases hpi:p l[i.1]
   ·simp only [decide_eq_false_iff_not]
    rintro ⟨j,e,h⟩
    rw [hsame j i e,hpi] at h;cases h
   ·simp only [decide_eq_true_eq]
    exact ⟨i,rfl,hpi⟩
  have hrow:Row w (loc 0).b (loc 0).base (Array.ofFn hd).size (Array.ofFn hd) w:=⟨rfl,rfl,rfl,qg _,λ _ _ _=>rfl,λ _ _=>rfl,λ _=>rfl,rfl,λ j hj=>by
   rw [hds] at hj
   rw [(hhd ⟨j,hj⟩).1,hdj j hj],qg _⟩
  obtain ⟨yv,hy1,hy2⟩:=hH1.there 0 (qa (by simp) hH1.1)
  have hyr:RepL w (λ b k=>F b k) yv Y:=by
   have:=hH1.2.2 0 (by simp) yv hy1
   simp only [List.getElem_cons_zero] at this
   cases this with
   | lf h=>exact h.mono (λ b k h=>by
     rcases h with h | ⟨_,h⟩
     ·exact h.elim
     ·exact h) (λ _ _ _=>rfl)
  have hne:(loc 0).b≠(loc 1).b:=λ e=>by
   have h2:=hsit.dis 0 1 (_,_) (_,_) (by rfl) (by rfl) (by omega) (loc 0).b 0 0 (.inl ⟨rfl,by show 0 < (loc 0).n;omega⟩)
   exact h2 (.inl ⟨e,by show 0 < (loc 1).n;have:=hH1.1;simp at this;omega⟩)
  have hpred:∀ (W:World) (dk:Array Value) (u:Value),Row w (loc 0).b (loc 0).base (Array.ofFn hd).size dk W→(∃ j,j < (Array.ofFn hd).size∧(Array.ofFn hd)[j]! = u) →
    Calls Tryz.prog g (#[.agg #[u]]++#[.pointer (some ⟨(loc 1).b,(loc 1).base+0,none⟩)]) W λ e w'=>e=.returned (.bool (p' u))∧Below W.heap.size W w'∧W.drawn≤w'.drawn:=by
   intro W dk u hR ⟨j,hj,hu⟩
   rw [hds] at hj
   rw [hdj j hj] at hu
   subst hu
   have hK:=zvk hR
   have hnb:∀ b k,b≠(loc 0).b→b < w.heap.size→W.cell? ⟨b,k,none⟩=w.cell? ⟨b,k,none⟩:=λ b k hb hlt=>hK.cell b k hlt λ h=>by
    rcases h with h | h
    ·exact hb h.1
    ·exact hb h.2
   have hFb:∀ b k,F b k→b≠(loc 0).b∧b < w.heap.size:=λ b k h=>⟨λ e=>(hsit.sep 0 (_,_) (by rfl) (loc 0).b 0 (.inl ⟨rfl,by show 0 < (loc 0).n;omega⟩)).1 k (by rw [← e];exact h),(hsit.old b k h).1⟩
   obtain ⟨nx,_,hfn⟩:=hp l[j] (List.getElem_mem _)
   have hcall:=hfn W (λ b k=>F b k∨B j 0 b∨(b=(loc 1).b∧k=(loc 1).base)) loc #[.agg #[hd ⟨j,hj⟩],.pointer (some ⟨(loc 1).b,(loc 1).base+0,none⟩)] (zx4 λ b k h=>by
    rcases h with h | h | h
    ·exact qa (hFb b k h).2 hR.size
    ·exact qa (hBlt _ _ h) hR.size
    ·rw [h.1];exact qa (zlz hy1) hR.size) (by simp) (λ t ht=>by
    have ht2:t=0∨t=1:=by simp at ht;omega
    rcases ht2 with e | e
    ·subst e
     refine ⟨_,rfl,.ag (λ _=>hd ⟨j,hj⟩) (by simp) (λ q hq=>by
      have:q=0:=by simpa using hq
      subst this
      rfl) λ q hq=>?_⟩
     have:q=0:=by simpa using hq
     subst this
     exact .lf (RepD.rep ((hrep ⟨j,hj⟩).mono (λ _ h=>h) λ b k hb=>hnb b k (b1 _ _ _ hb).2 (hBlt _ _ hb)) λ b k hb=>.inr ⟨rfl,.inr (.inl hb)⟩)
    ·subst e
     refine ⟨_,rfl,.ra (λ _=>yv) (λ q hq=>?_) λ q hq=>?_⟩
     ·have:q=0:=by simpa using hq
      subst this
      exact ⟨.inr ⟨rfl,.inr (.inr ⟨rfl,rfl⟩)⟩,(hnb _ _ (Ne.symm hne) (zlz hy1)).trans hy1⟩
     ·have:q=0:=by simpa using hq
      subst this
      exact hyr.mono (λ b k h=>.inr ⟨rfl,.inl h⟩) λ b k h=>hnb b k (hFb b k h).1 (hFb b k h).2)
   refine hcall.mono λ e w' ⟨v,c',he,hle,hnx,hs,hcr⟩=>⟨?_,(hs.keep.mono λ x y _ ⟨_,_,e,_⟩=>by cases e).below,hs.keep.dr⟩
   rw [he,hp']
   cases hcr with | lf h=>cases h;rfl
  have hsl:∀ j,j < (Array.ofFn hd).size→∃ a n c,(Array.ofFn hd)[j]! = .slice a n c:=λ j hj=>by
   rw [hds] at hj
   obtain ⟨r,a,c,e,_⟩:=zsj (hrep ⟨j,hj⟩)
   exact ⟨a,_,c,by rw [hdj j hj,e]⟩
  obtain ⟨idx,hidx⟩:∃ idx,idx=(List.finRange l.length).filter λ i=>!p l[i.1]:=⟨_,rfl⟩
  have hnd:idx.Nodup:=by rw [hidx];exact (List.nodup_finRange _).filter _
  have hf1:((Array.ofFn hd).toList.filter λ x=>!p' x)=idx.map hd:=by
   have e1:(Array.ofFn hd).toList=(List.finRange l.length).map hd:=qi (by simp) λ i h1 h2=>by simp
   rw [e1,qj,hidx]
   congr 1
   refine List.filter_congr λ i _=>?_
   show (!p' (hd i))=_
   rw [hp']
  have hf2:(l.filter λ x=>!p x)=idx.map λ i=>l[i.1]:=by
   have e1:l=(List.finRange l.length).map λ i=>l[i.1]:=qi (by simp) λ i h1 h2=>by simp
   conv=>lhs;rw [e1]
   rw [qj,hidx]
   rfl
  have hle:idx.length≤l.length:=by
   rw [hidx]
   exact qf (List.length_filter_le _ _) (by simp)
  have hres:=Tryz.delAll (loc 0).b (loc 0).base cap0 g #[.pointer (some ⟨(loc 1).b,(loc 1).base+0,none⟩)] (Array.ofFn hd) p' w eg (by rw [hds];exact hlen) (by rw [hds];exact hl0) hblk hrow (λ j hj=>by rw [hds] at hj;exact (hhd ⟨j,hj⟩).2) hsl hpred
  rw [hf1,hds,qO] at hres
  rw [hf2,qO]
  refine hres.mono λ e w' ⟨he,hR⟩=>⟨_,_,he,.refl _,rfl,?_,.os hid0 (qf hle hl0) ⟨qf hle hl0,hm0.2⟩ (λ h=>by cases h) (.inr (by simp only [qk,qd];rfl)) hn0⟩
  have hpe:Go.TL.hp [(0,some (false,Ob.deep [.sl ts] ((idx.map λ i=>l[i.1]).map E))),(1,some (fb,.box [.lf tb Y]))]=upd (Go.TL.hp [(0,some (false,Ob.deep [.sl ts] (l.map E))),(1,some (fb,.box [.lf tb Y]))]) 0 (some (false,.deep [.sl ts] ((idx.map λ i=>l[i.1]).map E))):=by
   funext id
   rw [zkD,zkD,zkD,zkD]
   unfold upd
   by_cases q0:id=0
   ·subst q0;rfl
   ·simp only [q0,if_false]
  rw [hpe]
  have hK:=zvk hR
  refine (hsit.upd hK (fr:=false) (o:=.deep [.sl ts] (l.map E)) rfl (λ b j _ h=>.inl ⟨by rcases h with h | h;exact h.1;exact h.2,by show 0 < (loc 0).n;omega⟩) ?_).1
  have hd2:∀ i (hi:i < idx.length),w'.cell? ⟨(loc 0).b,(loc 0).base+i,none⟩=some (hd idx[i]):=λ i hi=>by
   rw [hR.row i (by omega),getElem!_pos _ i (by rw [List.size_toArray,qM,qO];omega),List.getElem_toArray,List.getElem_append_left (by rw [qO];exact hi),List.getElem_map]
  refine ⟨(by simp only [qO,qP,qQ,qe,qh];show idx.length≤(loc 0).n;omega),λ r hr=>?_,λ j hj=>?_,λ i j x=>∃ h:i < idx.length,j=0∧B idx[i].1 0 x,λ i j x ⟨h,_,hx⟩=>b1 _ _ _ hx,λ i j i' j' x hA hA'=>?_,λ i j hi hj hj' v hc=>?_⟩
  ·obtain ⟨a,_,rfl⟩:=List.mem_map.1 hr
   rw [hE];rfl
  ·obtain ⟨u,hu,hfz⟩:=g2 j hj
   by_cases hjR:j < l.length
   ·exact ⟨_,hR.row j hjR,(hR.frz _).trans hfz⟩
   ·exact ⟨u,(hR.cell _ (.inr (by show (loc 0).base+l.length≤(loc 0).base+j;omega))).trans hu,(hR.frz _).trans hfz⟩
  ·obtain ⟨h,ej,hx⟩:=hA
   obtain ⟨h',ej',hx'⟩:=hA'
   have e1:=(b2 _ _ _ _ x hx hx').1
   have e2:idx[i]=idx[i']:=Fin.ext e1
   refine ⟨?_,by rw [ej,ej']⟩
   rcases Nat.lt_trichotomy i i' with hlt | heq | hlt
   ·exact absurd e2 (List.pairwise_iff_getElem.1 hnd i i' _ _ hlt)
   ·exact heq
   ·exact absurd e2.symm (List.pairwise_iff_getElem.1 hnd i' i _ _ hlt)
  ·have hj0:j=0:=by simpa using hj'
   subst hj0
   have hi':i < idx.length:=by simpa using hi
   have h2:=hd2 i hi'
   simp only [qP,qQ,qe,qh,qd] at hc
   have hc':w'.cell? ⟨(loc 0).b,(loc 0).base+i,none⟩=some v:=hc
   rw [h2] at hc'
   cases hc'
   have h3:=(hrep idx[i]).mono (w':=w') (B2:=λ x=>∃ h:i < idx.length,0=0∧B idx[i].1 0 x) (λ x hx=>⟨hi',rfl,hx⟩) λ b k hb=>hK.cell b k (hBlt _ _ hb) λ h=>by
    rcases h with h | h
    ·exact (b1 _ _ _ hb).2 h.1
    ·exact (b1 _ _ _ hb).2 h.2
   simpa [hE] using h3
end Go.TL

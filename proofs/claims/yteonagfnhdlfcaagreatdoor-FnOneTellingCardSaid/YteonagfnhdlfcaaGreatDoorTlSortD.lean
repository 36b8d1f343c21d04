import Derived.Test.YteonagfnhdlfcaaGreatDoorG36TlCmpT
import Derived.Test.YteonagfnhdlfcaaGreatDoorG34TlBelow
open List renaming length_map → qO, length_cons → qP, length_nil → qQ, pairwise_iff_getElem → qb, getElem_mem → qe
open Nat renaming lt_of_lt_of_le → qa, mul_one → qc, add_zero → qf, zero_add → qg, mod_one → qh
open Array renaming toList_ofFn → qd
set_option linter.unusedSimpArgs false
set_option linter.unusedVariables false
noncomputable section
namespace Go.TL
open Go Go.Shelf Go.Proofs Go.Sort
variable {P:Program} {ρ:Go.Shelf.Ren} {β:Type}
theorem zwj {D:zkF} {w w':World} (h:Keep D w w') (hD:∀ b k,b < w.heap.size→¬ D b k):∃ q os',w'=grow (w.drewN q) os':=by
 refine ⟨w'.drawn - w.drawn,w'.heap.extract w.heap.size w'.heap.size,?_⟩
 have hs:=h.size
 have hb:∀ b,b < w.heap.size→w'.heap[b]?=w.heap[b]?:=λ b hb=>h.blk b hb λ k=>hD b k hb
 have hheap:w'.heap=w.heap++w'.heap.extract w.heap.size w'.heap.size:=by
  refine Array.ext_getElem? λ i=>?_
  by_cases hi:i < w.heap.size
  ·rw [hb i hi,Array.getElem?_append_left hi]
  ·rw [Array.getElem?_append_right (by omega)]
   by_cases hj:i < w'.heap.size
   ·rw [Array.getElem?_extract]
    rw [if_pos (by omega)]
    congr 1
    omega
   ·rw [Array.getElem?_eq_none (by omega),Array.getElem?_eq_none (by rw [Array.size_extract];omega)]
 have hd:w'.drawn=w.drawn+(w'.drawn - w.drawn):=by have:=h.dr;omega
 obtain ⟨h1,h2,h3,_,_,_,_,_⟩:=h
 cases w';cases w
 simp only at h1 h2 h3 hheap hd
 unfold grow World.drewN
 simp only [World.mk.injEq]
 exact ⟨hheap,h2,hd,h1,h3⟩
theorem zzB {w:World} {F:zkF} {loc:Nat→Loc} (hF:∀ b k,F b k→b < w.heap.size):Sit w (frm (rng loc (hp []))) (zm6 F loc 0) (hp []) w where
 keep:=Keep.refl _ w
 own id o h:=by cases h
 dis i j oi oj h:=by cases h
 sep id o h:=by cases h
 old b k h:=⟨hF b k h,λ ⟨_,_,e,_⟩=>by cases e⟩
 new b k h:=h.elim
 res b k v h:=by cases h
 pl id o h:=by cases h
 mo id o h:=by cases h
theorem zw3 {α:Type} {a:Array α} {m:Nat} (h:a.size=m):a.extract 0 m=a:=by subst h;simp
theorem zzC {n:Nat} [Inhabited (Fin n)] {l:List β} (hl:l.length=n) {d':Array (Fin n)} (hp:PermIn 0 (Array.ofFn (n:=n) id).size (Array.ofFn (n:=n) id) d') :
  d'.size=n∧d'.toList.Nodup∧(d'.toList.map λ i=>l[i.1]'(by rw [hl];exact i.2)).Perm l:=by
 obtain ⟨h1,_,h3⟩:=hp
 rw [Array.size_ofFn] at h1 h3
 have e1:d'.extract 0 n=d':=zw3 h1
 have e2:(Array.ofFn (n:=n) id).extract 0 n=Array.ofFn (n:=n) id:=zw3 (by simp)
 rw [e1,e2] at h3
 refine ⟨h1,?_,?_⟩
 ·rw [h3.nodup_iff,qd]
  unfold List.Nodup
  rw [qb]
  intro i j hi hj hij e
  simp at e
  omega
 ·refine (h3.map _).trans ?_
  rw [qd,List.map_ofFn]
  refine List.Perm.of_eq ?_
  refine List.ext_getElem (by simp [hl]) λ i h1 h2=>?_
  simp
theorem zzD (L:SlLaysF0.n6 P ρ) (hent:Ent P (ρ.f 6)) (aE:∀ w,(isAgg (ρ.t 24)).run P w=.ok true w) (zE:∀ w,(Go.sizeOf (ρ.t 24)).run P w=.ok 1 w) {s:DSh} {E:β→List Leaf} {X:β→Leaf} (hE:∀ x,E x=[X x])
  {cf:β→β→Int} (hO:SWO (ltOf cf)) {g:Nat} (eg:∀ args w,(callFunc g args).run P w=.ok (.enter g args) w) {l R:List β}
  (hcmp:∀ x∈l,∀ y∈l,∃ nx,Fn P g [.ag [.lf true (X x)],.ag [.lf true (X y)]] [] 0 (.lf false (.sc (.int .i64 (cf x y)))) [] nx)
  {x0:Bool} {m0:Nat} (hlen:l.length < 4611686018427387904) (hR:∀ r:List β,r.Perm l→(r.Pairwise λ a b=>ltOf cf b a=false)→r=R) :
  Fn P (ρ.f 6) [.os 0 1 0 l.length m0 x0,.fn g []] [(0,some (false,.deep [s] (l.map E)))] 1 (.tu []) [(0,some (false,.deep [s] (R.map E)))] 1:=by
 refine ⟨hent,λ w F loc vs hsit hvs hv=>?_⟩
 obtain ⟨u0,e0,c0⟩:=hv 0 (by simp)
 obtain ⟨u1,e1,c1⟩:=hv 1 (by simp)
 have hvs':vs=#[u0,u1]:=by
  simp only [qP,qQ] at hvs
  refine Array.ext (by simpa using hvs) λ i h1 h2=>?_
  have hi:i=0∨i=1:=by omega
  rcases hi with rfl | rfl
  ·rw [Array.getElem?_eq_getElem h1] at e0;cases e0;rfl
  ·rw [Array.getElem?_eq_getElem h1] at e1;cases e1;rfl
 subst hvs'
 have hH0:Holds w (zm6 F loc 1) (loc 0) (.deep [s] (l.map E)):=(hsit.own 0 (_,_) (by rfl)).2
 have hf:u1=.func (.func g) #[] #[]:=by
  cases c1 with
  | fn cs hn hv h =>
   have:∀ vs:Array Value,vs.size=0→vs=#[]:=λ vs h=>Array.eq_empty_of_size_eq_zero h
   rw [this _ hn]
 subst hf
 cases c0 with
 | os hid0 hl0 hm0 hx0 ha0 hn0 =>
  rename_i cap0 a0
  have key:Calls P (ρ.f 6) #[.slice a0 l.length cap0,.func (.func g) #[] #[]] w λ e w'=>e=.returned (.tuple #[]) ∧
    Sit w (frm (rng loc (hp [(0,some (false,Ob.deep [s] (l.map E)))]))) (zm6 F loc 1) (hp [(0,some (false,.deep [s] (R.map E)))]) w':=by
   rcases Nat.eq_zero_or_pos l.length with h0 | h0
   ·have hl:l=[]:=List.length_eq_zero_iff.1 h0
    subst hl
    have hRn:[]=R:=hR [] (.refl _) .nil
    subst hRn
    exact (AnyF.slices_SortFunc_none L a0 cap0 _ w).mono λ e w' ⟨he,hw⟩=>⟨he,by rw [hw];exact hsit⟩
   ·have ha0':=ha0.resolve_left (by omega)
    simp only [Nat.zero_mul,qf] at ha0'
    have ha0':a0=some ⟨(loc 0).b,(loc 0).base,none⟩:=ha0'
    subst ha0'
    obtain ⟨g1,g0,g2,B,b1,b2,b3⟩:=id hH0
    simp only [qO,qP,qQ,qg,qc] at g1
    haveI:Inhabited (Fin l.length):=⟨⟨0,h0⟩⟩
    have hcell:∀ i:Fin l.length,∃ v,w.cell? ⟨(loc 0).b,(loc 0).base+i.1,none⟩=some v∧w.frozen? ⟨(loc 0).b,(loc 0).base+i.1,none⟩=false:=λ i=>g2 i.1 (qa i.2 g1)
    obtain ⟨hd,hhd⟩:∃ hd:Fin l.length→Value,∀ i,w.cell? ⟨(loc 0).b,(loc 0).base+i.1,none⟩=some (hd i)∧w.frozen? ⟨(loc 0).b,(loc 0).base+i.1,none⟩=false:=⟨λ i=>(hcell i).choose,λ i=>(hcell i).choose_spec⟩
    have hrep:∀ i:Fin l.length,RepD w (B i.1 0) s (hd i) (X l[i.1]):=λ i=>by
     have:=b3 i.1 0 (by simp) (by simp [hE]) (by simp) (hd i) (by simpa using (hhd i).1)
     simpa [hE] using this
    have hblk:(loc 0).b < w.heap.size:=zlz (hhd ⟨0,h0⟩).1
    have hBlt:∀ i x,B i 0 x→x < w.heap.size:=λ i x h=>(hsit.mo 0 (_,_) (by rfl) x (b1 i 0 x h).1).1
    have hds:(Array.ofFn (n:=l.length) id).size=l.length:=by simp
    have hHK:HoldsK (λ i=>[hd i]) 1 w (loc 0).b (loc 0).base (Array.ofFn (n:=l.length) id):=by
     intro j hj
     rw [size_flatK,hds,qc] at hj
     have h1:=hhd ⟨j,hj⟩
     refine ⟨?_,h1.2⟩
     rw [get_flatK _ _ _ _ (by rw [hds];omega)]
     rw [h1.1]
     simp [hj,qh]
    have hkp:∀ (m:Nat) (dk:Array (Fin l.length)) (os:Array Obj),dk.size=l.length→Keep (λ x j=>x=(loc 0).b∧(loc 0).base≤j∧j < (loc 0).base+l.length) w (sortWorldK (λ i=>[hd i]) 1 w (loc 0).b (loc 0).base m dk os):=λ m dk os h=>by
     have:=zx2 (enc:=λ i:Fin l.length=>[hd i]) (k:=1) (w:=w) (blk:=(loc 0).b) (off:=(loc 0).base) (n:=m) (d':=dk) (os:=os) hblk (by omega)
     rw [h,qc] at this
     exact this
    have hsame:∀ (W:World),Keep (λ x j=>x=(loc 0).b∧(loc 0).base≤j∧j < (loc 0).base+l.length) w W→∀ i x k,B i 0 x→W.cell? ⟨x,k,none⟩=w.cell? ⟨x,k,none⟩:=λ W hK i x k hx=>hK.cell x k (hBlt i x hx) λ h=>(b1 i 0 x hx).2 h.1
    have hC:CmpLays P g #[] (λ i:Fin l.length=>[hd i]) 1 (λ i j=>cf l[i.1] l[j.1]) (loc 0).b (loc 0).base (Array.ofFn (n:=l.length) id).size w:=by
     intro m os dk hdk x y
     rw [hds] at hdk
     have hK:=hkp m dk os hdk
     obtain ⟨W,hW⟩:∃ W,W=sortWorldK (λ i=>[hd i]) 1 w (loc 0).b (loc 0).base m dk os:=⟨_,rfl⟩
     rw [← hW] at hK ⊢
     have hcv:∀ z:Fin l.length,(z=x∨z=y)→Cv W (zm6 (λ b _=>B x.1 0 b∨B y.1 0 b) loc 0) (.ag [.lf true (X l[z.1])]) (.agg #[hd z]):=λ z hz=>by
      refine .ag (λ _=>hd z) (by simp) (λ j hj=>by
       have:j=0:=by simpa using hj
       subst this
       rfl) λ j hj=>?_
      have:j=0:=by simpa using hj
      subst this
      refine .lf (RepD.rep ((hrep z).mono (λ _ h=>h) λ b k hb=>hsame W hK z.1 b k hb) λ b k hb=>.inr ⟨rfl,?_⟩)
      rcases hz with e | e
      ·rw [e] at hb;exact .inl hb
      ·rw [e] at hb;exact .inr hb
     obtain ⟨nx,_,hfn⟩:=hcmp l[x.1] (qe _) l[y.1] (qe _)
     have:=hfn W (λ b _=>B x.1 0 b∨B y.1 0 b) loc #[.agg #[hd x],.agg #[hd y]] (zzB λ b k h=>by
      rcases h with h | h
      ·exact qa (hBlt _ _ h) hK.size
      ·exact qa (hBlt _ _ h) hK.size) (by simp) (λ j hj=>by
      have hj2:j=0∨j=1:=by simp at hj;omega
      rcases hj2 with e | e
      ·subst e;exact ⟨_,rfl,hcv x (.inl rfl)⟩
      ·subst e;exact ⟨_,rfl,hcv y (.inr rfl)⟩)
     refine this.mono λ e w' ⟨v,c',he,hle,hnx,hs,hcr⟩=>?_
     obtain ⟨q,os',hg⟩:=zwj hs.keep λ b k _ ⟨_,_,e,_⟩=>by cases e
     exact ⟨by rw [he,zwQ hcr],q,os',hg⟩
    have h1:∀ i:Fin l.length,∀ v∈[hd i],v.oneCell'=true:=λ i v hv=>by
     rw [List.mem_singleton.1 hv]
     exact zwB ((hrep i).rep (S:=λ _ _=>True) λ _ _ _=>trivial)
    have:=AnyQ.slices_SortFunc L 1 aE zE (λ i:Fin l.length=>[hd i]) (λ _=>rfl) h1 (λ i j=>cf l[i.1] l[j.1]) ⟨λ x=>hO.irrefl _,λ x y z=>hO.trans _ _ _,λ x y z=>hO.ntrans _ _ _⟩ g #[] (loc 0).b (loc 0).base cap0 (Array.ofFn (n:=l.length) id) w eg hC hHK hblk (by rw [hds];exact hlen)
    rw [hds] at this
    refine this.mono λ e w' ⟨he,d',n,os,hp',hs',hw⟩=>⟨he,?_⟩
    obtain ⟨q1,q2,q3⟩:=zzC rfl (by rw [hds];exact hp')
    have hK:Keep (λ x j=>x=(loc 0).b∧(loc 0).base≤j∧j < (loc 0).base+l.length) w w':=by rw [hw];exact hkp n d' os q1
    have hpw:(d'.toList.map λ i=>l[i.1]).Pairwise λ a b=>ltOf cf b a=false:=by
     rw [List.pairwise_map,qb]
     intro i j hi hj hij
     have hi':i < d'.size:=by simpa using hi
     have hj':j < d'.size:=by simpa using hj
     have:=hs' i j (Nat.zero_le _) hij (by omega)
     rw [getElem!_pos d' i hi',getElem!_pos d' j hj'] at this
     simp only [Array.getElem_toList]
     exact this
    have hRr:=hR _ q3 hpw
    subst hRr
    have hnew:HoldsK (λ i=>[hd i]) 1 w' (loc 0).b (loc 0).base d':=by rw [hw];exact holdsK_sortWorldK_c (λ i:Fin l.length=>[hd i]) 1 w _ _ (Array.ofFn (n:=l.length) id) d' n os hHK hblk (by rw [hds];exact q1)
    have hnew':∀ i (hi:i < d'.size),w'.cell? ⟨(loc 0).b,(loc 0).base+i,none⟩=some (hd d'[i])∧w'.frozen? ⟨(loc 0).b,(loc 0).base+i,none⟩=false:=λ i hi=>by
     have:=hnew i (by rw [size_flatK];omega)
     rw [get_flatK _ _ _ _ (by omega)] at this
     refine ⟨?_,this.2⟩
     rw [this.1]
     simp [hi,qh]
    have hpe:hp [(0,some (false,Ob.deep [s] ((d'.toList.map λ i=>l[i.1]).map E)))]=upd (hp [(0,some (false,Ob.deep [s] (l.map E)))]) 0 (some (false,.deep [s] ((d'.toList.map λ i=>l[i.1]).map E))):=by
     funext id
     rw [zkD,zkD]
     unfold upd
     by_cases q0:id=0
     ·subst q0;rfl
     ·simp only [q0,if_false]
    rw [hpe]
    refine (hsit.upd hK (fr:=false) (o:=.deep [s] (l.map E)) rfl (λ b j _ h=>.inl ⟨h.1,by omega⟩) ?_).1
    refine ⟨(by simp [q1];exact g1),λ r hr=>?_,λ j hj=>?_,λ i j x=>∃ h:i < d'.size,j=0∧B d'[i].1 0 x,λ i j x ⟨h,_,hx⟩=>b1 _ _ _ hx,λ i j i' j' x hA hA'=>?_,λ i j hi hj hj' v hc=>?_⟩
    ·obtain ⟨a,_,rfl⟩:=List.mem_map.1 hr
     rw [hE];rfl
    ·obtain ⟨u,hu,hfz⟩:=g2 j hj
     have hlt:=zlz hu
     by_cases hjR:j < d'.size
     ·exact ⟨_,hnew' j hjR⟩
     ·exact ⟨u,(hK.cell _ _ hlt (λ h=>by have h3:(loc 0).base+j < (loc 0).base+l.length:=h.2.2;omega)).trans hu,(hK.frz _ _ hlt).trans hfz⟩
    ·obtain ⟨h,ej,hx⟩:=hA
     obtain ⟨h',ej',hx'⟩:=hA'
     have e1:=(b2 _ _ _ _ x hx hx').1
     have e2:d'.toList[i]'(by simpa using h)=d'.toList[i']'(by simpa using h'):=by simpa using Fin.ext e1
     refine ⟨?_,by rw [ej,ej']⟩
     rcases Nat.lt_trichotomy i i' with hlt | heq | hlt
     ·exact absurd e2 (List.pairwise_iff_getElem.1 q2 i i' _ _ hlt)
     ·exact heq
     ·exact absurd e2.symm (List.pairwise_iff_getElem.1 q2 i' i _ _ hlt)
    ·have hj0:j=0:=by simpa using hj'
     subst hj0
     have hi':i < d'.size:=by simpa using hi
     have h2:=(hnew' i hi').1
     simp only [qP,qQ,qg,qc,qf] at hc
     have hc':w'.cell? ⟨(loc 0).b,(loc 0).base+i,none⟩=some v:=hc
     rw [h2] at hc'
     cases hc'
     have h3:=(hrep d'[i]).mono (w':=w') (B2:=λ x=>∃ h:i < d'.size,0=0∧B d'[i].1 0 x) (λ x hx=>⟨hi',rfl,hx⟩) λ b k hb=>hsame w' hK _ b k hb
     simpa [hE] using h3
  refine key.mono λ e w' ⟨he,hsit'⟩=>⟨_,_,he,.refl _,rfl,hsit',.tu (λ _=>default) rfl (λ j hj=>by simp at hj) (λ j hj=>by simp at hj)⟩
end Go.TL

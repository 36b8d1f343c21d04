import Derived.Test.YteonagfnhdlfcaaGreatDoorTlInsert
import Derived.Test.YteonagfnhdlfcaaGreatDoorTlStep
import Derived.Test.YteonagfnhdlfcaaGreatDoorG18PlTrim
import Derived.Shelf.Sort.Plain
import Derived.Shelf.Slices.In.SortNone
import Derived.Shelf.Slices.CompactS
open List renaming length_append → qM, length_replicate → qN, length_map → qO, length_cons → qP, length_nil → qQ, getElem_map → qa, getElem_cons_zero → qc, size_toArray → qg
open Nat renaming add_zero → qb, eq_zero_or_pos → qd, lt_of_lt_of_le → qe, zero_mul → qf, mul_one → qh, le_refl → qi
set_option linter.unusedSimpArgs false
set_option linter.unusedVariables false
noncomputable section
namespace Go.TL
open Go Go.Shelf Go.Proofs
variable {P:Program} {ρ:Go.Shelf.Ren}
theorem zqQ (s:ByteArray):Go.Proofs.encStr (zl5 s)=Value.string s:=congrArg Value.string (zpK s)
theorem zvl {w:World} {blk off n:Nat} {d':Array (List UInt8)} {os:Array Obj} (hb:blk < w.heap.size) (hpos:0 < d'.size):Keep (λ x j=>x=blk∧off≤j∧j < off+d'.size) w (Go.Sort.grow (Go.Sort.putRow Go.Proofs.encStr (Go.Sort.ahead w n) blk off d') os) where
 os:=rfl
 tape:=rfl
 output:=rfl
 size:=by
  show w.heap.size≤(Go.Sort.grow (Go.Sort.putRow Go.Proofs.encStr (Go.Sort.ahead w n) blk off d') os).heap.size
  rw [Go.Sort.size_grow]
  have:(Go.Sort.putRow Go.Proofs.encStr (Go.Sort.ahead w n) blk off d').heap.size=w.heap.size:=by rw [Go.Sort.size_putRow];rfl
  omega
 cell b j hlt hd:=by
  have hs:(Go.Sort.putRow Go.Proofs.encStr (Go.Sort.ahead w n) blk off d').heap.size=w.heap.size:=by rw [Go.Sort.size_putRow];rfl
  show (Go.Sort.grow (Go.Sort.putRow Go.Proofs.encStr (Go.Sort.ahead w n) blk off d') os).cell? ⟨b,j,none⟩=_
  rw [Go.Sort.cell?_grow _ _ _ (by rw [hs];exact hlt)]
  rw [Go.Sort.cell?_putRow_other _ _ _ _ _ _ (by simp only;omega),Go.Sort.cell?_ahead]
 frz b j hlt:=by
  have hs:(Go.Sort.putRow Go.Proofs.encStr (Go.Sort.ahead w n) blk off d').heap.size=w.heap.size:=by rw [Go.Sort.size_putRow];rfl
  show (Go.Sort.grow (Go.Sort.putRow Go.Proofs.encStr (Go.Sort.ahead w n) blk off d') os).frozen? ⟨b,j,none⟩=_
  rw [Go.Sort.frozen?_grow _ _ _ (by rw [hs];exact hlt)]
  rw [Go.Sort.frozen?_putRow]
  rfl
 blk b hlt hd:=by
  have hs:(Go.Sort.putRow Go.Proofs.encStr (Go.Sort.ahead w n) blk off d').heap.size=w.heap.size:=by rw [Go.Sort.size_putRow];rfl
  have hne:blk≠b:=λ e=>hd off ⟨e.symm,qi _,by omega⟩
  show (Go.Sort.grow (Go.Sort.putRow Go.Proofs.encStr (Go.Sort.ahead w n) blk off d') os).heap[b]?=_
  rw [Go.Sort.heap_grow_old _ _ (by rw [hs];exact hlt)]
  unfold Go.Sort.putRow Go.Sort.mapBlock
  simp only [Array.getElem?_modify,if_neg hne]
  rfl
 dr:=Nat.le_add_right _ _
theorem zqR {w:World} {c:Ctx} {L:Loc} {t:Bool} {E:ByteArray→List Leaf} (hE:∀ a,E a=[.sc (.string a)]) {l:List ByteArray} (h:Holds w c L (.arr t 1 (l.map E))):Go.Sort.Holds Go.Proofs.encStr w L.b L.base (l.map zl5).toArray:=by
 intro j hj
 have hj':j < l.length:=by simpa using hj
 have h1:=zqP hE h (j:=j) (v:=.string l[j]) (by simp [hj'])
 have h2:=h.1
 rw [qO] at h2
 obtain ⟨u,hu,hf⟩:=h.there j (by omega)
 refine ⟨?_,hf⟩
 rw [h1]
 simp [hj',zqQ]
theorem zx6 {w:World} {c:Ctx} {L:Loc} {t:Bool} {E:ByteArray→List Leaf} (hE:∀ a,E a=[.sc (.string a)]) {l:List ByteArray} (hn:l.length≤L.n) (hz:∀ j (hj:j < l.length),w.cell? ⟨L.b,L.base+j,none⟩=some (.string l[j]))
  (hall:∀ j,j < L.n→∃ v,w.cell? ⟨L.b,L.base+j,none⟩=some v∧w.frozen? ⟨L.b,L.base+j,none⟩=false):Holds w c L (.arr t 1 (l.map E)):=by
 refine ⟨by simpa using hn,λ r hr=>?_,hall,λ i j hi hj v hv=>?_⟩
 ·obtain ⟨a,_,rfl⟩:=List.mem_map.1 hr
  rw [hE];rfl
 ·have hi':i < l.length:=by simpa using hi
  have hj0:j=0:=by simpa [hE] using hj
  subst hj0
  rw [qh,qb,hz i hi'] at hv
  cases hv
  simp only [qa,hE,qc]
  exact .sc rfl
theorem zAZ {w w':World} {W:Fr} {c:Ctx} {H:zkO} (s:Sit w W c H w) {E:ByteArray→List Leaf} (hE:∀ a,E a=[.sc (.string a)]) {id:Nat} {t t1:Bool} {l R:List ByteArray} (ho:H id=some (false,.arr t 1 (l.map E))) (h0:0 < l.length)
  {d':Array (List UInt8)} {n:Nat} {os:Array Obj} (hd:d'.size=l.length) (hw:w'=Go.Sort.grow (Go.Sort.putRow Go.Proofs.encStr (Go.Sort.ahead w n) (c.loc id).b (c.loc id).base d') os) (hR:R.length≤l.length) (hz:∀ j (hj:j < R.length),d'[j]! = zl5 R[j]) :
  Sit w W c (upd H id (some (false,.arr t1 1 (R.map E)))) w':=by
 have hH0:=(s.own id _ ho).2
 have hHK:=zqR hE hH0
 have hn0:=hH0.1
 rw [qO] at hn0
 have hblk:(c.loc id).b < w.heap.size:=by
  obtain ⟨u,hu,_⟩:=hH0.there 0 (by omega)
  exact zlz hu
 have hkeep:=zvl (w:=w) (blk:=(c.loc id).b) (off:=(c.loc id).base) (n:=n) (d':=d') (os:=os) hblk (by omega)
 rw [← hw] at hkeep
 have hnew:∀ j,j < d'.size→w'.cell? ⟨(c.loc id).b,(c.loc id).base+j,none⟩=some (Go.Proofs.encStr d'[j]!)∧w'.frozen? ⟨(c.loc id).b,(c.loc id).base+j,none⟩=false:=λ j hj=>by
  have hs:(Go.Sort.putRow Go.Proofs.encStr (Go.Sort.ahead w n) (c.loc id).b (c.loc id).base d').heap.size=w.heap.size:=by rw [Go.Sort.size_putRow];rfl
  have hh:=Go.Sort.holds_putRow Go.Proofs.encStr (Go.Sort.ahead w n) (c.loc id).b (c.loc id).base _ d' (Go.Sort.holds_ahead Go.Proofs.encStr w n _ _ _ hHK) (by simpa using hd) j hj
  rw [hw,Go.Sort.cell?_grow _ _ _ (by rw [hs];exact hblk),Go.Sort.frozen?_grow _ _ _ (by rw [hs];exact hblk)]
  exact hh
 refine (s.upd hkeep (fr:=false) (o:=.arr t 1 (l.map E)) ho (λ b j _ h=>.inl ⟨h.1,by omega⟩) ?_).1
 refine zx6 hE (by omega) (λ j hj=>?_) λ j hj=>?_
 ·have:=(hnew j (by omega)).1
  rw [this,hz j hj,zqQ]
 ·obtain ⟨u,hu,hfz⟩:=hH0.there j hj
  have hlt:=zlz hu
  by_cases hjR:j < d'.size
  ·exact ⟨_,hnew j hjR⟩
  ·exact ⟨u,(hkeep.cell _ _ hlt (λ h=>by have h3:(c.loc id).base+j < (c.loc id).base+d'.size:=h.2.2;omega)).trans hu,(hkeep.frz _ _ hlt).trans hfz⟩
theorem zzG {t t1:Bool} {a b:List (List Leaf)}:hp [(0,some (false,Ob.arr t1 1 b))]=upd (hp [(0,some (false,Ob.arr t 1 a))]) 0 (some (false,.arr t1 1 b)):=by
 funext id
 rw [zkD,zkD]
 unfold upd
 by_cases q0:id=0
 ·subst q0;rfl
 ·simp only [q0,if_false]
theorem zA0 {M:List (List UInt8)} {j:Nat} (hj:j < (M.map znO).length):M.toArray[j]! = zl5 (M.map znO)[j]:=by
 have hj':j < M.length:=by simpa using hj
 rw [qa,zpL]
 simp [hj']
theorem zvm {M R:List (List UInt8)} {j:Nat} (hj:j < (M.map znO).length):(M++R).toArray[j]! = zl5 (M.map znO)[j]:=by
 have hj':j < M.length:=by simpa using hj
 have hj2:j < (M++R).length:=by rw [qM];omega
 rw [qa,zpL]
 rw [getElem!_pos _ j (by simpa using hj2)]
 simp [hj']
theorem zzH (L:Lays.n190 P ρ) (hent:Ent P (ρ.f 190)) {E:ByteArray→List Leaf} (hE:∀ a,E a=[.sc (.string a)]) {t0 t1 x0:Bool} {m0:Nat} {l:List ByteArray} (hlen:l.length < 4611686018427387904) :
  Fn P (ρ.f 190) [.os 0 1 0 l.length m0 x0] [(0,some (false,.arr t0 1 (l.map E)))] 1 (.tu []) [(0,some (false,.arr t1 1 ((zod l).map E)))] 1:=by
 refine ⟨hent,λ w F loc vs hsit hvs hv=>?_⟩
 obtain ⟨u0,e0,c0⟩:=hv 0 (by simp)
 have hvs':vs=#[u0]:=by
  simp only [qP,qQ] at hvs
  refine Array.ext (by simpa using hvs) λ i h1 h2=>?_
  have hi:i=0:=by omega
  subst hi
  rw [Array.getElem?_eq_getElem h1] at e0;cases e0;rfl
 subst hvs'
 have hH0:Holds w (zm6 F loc 1) (loc 0) (.arr t0 1 (l.map E)):=(hsit.own 0 (_,_) (by rfl)).2
 cases c0 with
 | os hid0 hl0 hm0 hx0 ha0 hn0 =>
  rename_i cap0 a0
  have key:Calls P (ρ.f 190) #[.slice a0 l.length cap0] w λ e w'=>e=.returned (.tuple #[]) ∧
    Sit w (frm (rng loc (hp [(0,some (false,Ob.arr t0 1 (l.map E)))]))) (zm6 F loc 1) (hp [(0,some (false,.arr t1 1 ((zod l).map E)))]) w':=by
   rcases qd l.length with h0 | h0
   ·have hl:l=[]:=List.length_eq_zero_iff.1 h0
    subst hl
    refine (Any.slices_Sort_string_none L a0 cap0 w).mono λ e w' ⟨he,hw⟩=>⟨he,?_⟩
    have hs0:zod []=[]:=by unfold zod;simp
    rw [hw,hs0,zzG (t:=t0) (t1:=t1) (a:=([]:List ByteArray).map E) (b:=([]:List ByteArray).map E)]
    have hh:Holds w (zm6 F loc 1) (loc 0) (.arr t1 1 (([]:List ByteArray).map E)):=⟨by simp,λ r hr=>by simp at hr,hH0.there,λ i j hi=>by simp at hi⟩
    exact (hsit.upd (Keep.refl (λ _ _=>False) w) (id:=0) (fr:=false) (o:=.arr t0 1 (([]:List ByteArray).map E)) rfl (λ _ _ _ h=>h.elim) hh).1
   ·have ha0':=ha0.resolve_left (by omega)
    simp only [qf,qb] at ha0'
    have ha0':a0=some ⟨(loc 0).b,(loc 0).base,none⟩:=ha0'
    subst ha0'
    have hHK:=zqR hE hH0
    have hblk:(loc 0).b < w.heap.size:=by
     obtain ⟨u,hu,_⟩:=hH0.there 0 (by have:=hH0.1;rw [qO] at this;omega)
     exact zlz hu
    have:=Any.slices_Sort_string L (loc 0).b (loc 0).base cap0 (l.map zl5) w hHK hblk (by simpa using hlen)
    rw [qO] at this
    refine this.mono λ e w' ⟨he,n,os,hw⟩=>⟨he,?_⟩
    rw [zzG (t:=t0) (t1:=t1) (a:=l.map E) (b:=(zod l).map E)]
    refine zAZ (c:=zm6 F loc 1) hsit hE (l:=l) (id:=0) rfl h0 (by rw [qg,List.length_mergeSort,qO]) hw (by rw [zqC];exact qi _) λ j hj=>zA0 hj
  exact key.mono λ e w' ⟨he,hsit'⟩=>⟨_,_,he,.refl _,rfl,hsit',.tu (λ _=>default) rfl (λ j hj=>by simp at hj) (λ j hj=>by simp at hj)⟩
theorem zzJ {w0 w w':World} {W0:Fr} {c:Ctx} {H:zkO} (s:Sit w0 W0 c H w) {E:ByteArray→List Leaf} (hE:∀ a,E a=[.sc (.string a)]) {b off cap N:Nat} {R:List ByteArray} (hk:Keep (λ x k=>x=b∧off≤k∧k < off+N) w w') (hN:N≤cap) (hcap:cap≤9223372036854775807) (hc:R.length≤cap)
  (hz:∀ j u,(R.map Value.string)[j]?=some u→w'.cell? ⟨b,off+j,none⟩=some u) {id:Nat} {o:Bool×Ob} (ho:H id=some o) (hb:b=(c.loc id).b) (hoff:off=(c.loc id).base) (hn:cap≤(c.loc id).n)
  (hall:∀ j,j < cap→∃ v,w'.cell? ⟨b,off+j,none⟩=some v∧w'.frozen? ⟨b,off+j,none⟩=false) {a:Option Addr} (ha:cap=0∨a=some ⟨b,off,none⟩) :
  ∃ L,Sit w0 W0 (c.push L) (upd (λ _=>none) c.nx (some (false,.arr false 1 (R.map E)))) w'∧Cv w' (c.push L) (.os c.nx 1 0 R.length R.length false) (.slice a R.length cap):=by
 have hrep:∀ (w':World) (S:zkF) (L:Loc),(∀ j u,(R.map Value.string)[j]?=some u→w'.cell? ⟨L.b,L.base+j,none⟩=some u)→∀ i j (hi:i < (R.map E).length) (hj:j < ((R.map E)[i]).length) u,w'.cell? ⟨L.b,L.base+(i * 1+j),none⟩=some u→RepL w' S u (((R.map E)[i])[j]):=by
  intro w' S L hz i j hi hj u hu
  have hi':i < R.length:=by simpa using hi
  have hj0:j=0:=by simpa [hE] using hj
  subst hj0
  have:=hz i (.string R[i]) (by simp [hi'])
  rw [qh,qb,this] at hu
  cases hu
  simp only [qa,hE,qc]
  exact .sc rfl
 have hrows:∀ r∈R.map E,r.length=1:=λ r hr=>by
  obtain ⟨a,_,rfl⟩:=List.mem_map.1 hr
  rw [hE];rfl
 have hin:∀ p k,(p=b∧off≤k∧k < off+N)→inR (c.loc id) p k:=λ p k h=>.inl ⟨h.1.trans hb,by omega⟩
 refine ⟨Loc.flat b off cap,(s.push hk (Loc.flat b off cap) (H':=λ _=>none) (λ _ _ h=>by cases h) (λ j=>j=id) (λ _ _=>rfl) (λ p k _ h=>⟨id,o,rfl,ho,hin p k h⟩) (λ p k h=>.inr ⟨id,o,rfl,ho,.inl ⟨(zlE h).1.trans hb,by have:=(zlE h).2;omega⟩,λ _=>rfl⟩) ?_ (λ _ h=>h.elim)).1,?_⟩
 ·exact ⟨by simpa using hc,hrows,λ j hj=>hall j hj,hrep w' _ (Loc.flat b off cap) hz⟩
 ·exact .os (Nat.lt_succ_self _) hc ⟨hc,hcap⟩ (λ h=>by cases h) (by rw [Ctx.push_loc,qf,qb];exact ha) (by rw [Ctx.push_loc];simp)
theorem zB1 {b:List (List Leaf)}:hp [(0,none),(1,some (false,Ob.arr false 1 b))]=upd (λ _=>none) 1 (some (false,.arr false 1 b)):=by
 funext id
 rw [zkD,zkD]
 unfold upd
 by_cases q0:id=0
 ·subst q0;rfl
 ·simp only [q0,if_false];rfl
theorem zzK (L:Lays.n194 P ρ) (hent:Ent P (ρ.f 194)) {E:ByteArray→List Leaf} (hE:∀ a,E a=[.sc (.string a)]) {t0 x0:Bool} {m0:Nat} {l:List ByteArray} (hlen:l.length≤9223372036854775807) :
  Fn P (ρ.f 194) [.os 0 1 0 l.length m0 x0] [(0,some (false,.arr t0 1 (l.map E)))] 1 (.os 1 1 0 (zmH l).length (zmH l).length false) [(0,none),(1,some (false,.arr false 1 ((zmH l).map E)))] 2:=by
 refine ⟨hent,λ w F loc vs hsit hvs hv=>?_⟩
 obtain ⟨u0,e0,c0⟩:=hv 0 (by simp)
 have hvs':vs=#[u0]:=by
  simp only [qP,qQ] at hvs
  refine Array.ext (by simpa using hvs) λ i h1 h2=>?_
  have hi:i=0:=by omega
  subst hi
  rw [Array.getElem?_eq_getElem h1] at e0;cases e0;rfl
 subst hvs'
 have hH0:Holds w (zm6 F loc 1) (loc 0) (.arr t0 1 (l.map E)):=(hsit.own 0 (_,_) (by rfl)).2
 have hn1:=hH0.1
 rw [qO] at hn1
 cases c0 with
 | os hid0 hl0 hm0 hx0 ha0 hn0 =>
  rename_i cap0 a0
  have hc:=zxG l
  simp only [qf,Nat.zero_add,qh,qb] at hn0 ha0
  have hn0:cap0≤(loc 0).n:=hn0
  have ha0:cap0=0∨a0=some ⟨(loc 0).b,(loc 0).base,none⟩:=ha0
  have key:Calls P (ρ.f 194) #[.slice a0 l.length cap0] w λ e w'=>e=.returned (.slice a0 (zmH l).length cap0) ∧
    Keep (λ x k=>x=(loc 0).b∧(loc 0).base≤k∧k < (loc 0).base+l.length) w w'∧(∀ j u,((zmH l).map Value.string)[j]?=some u→w'.cell? ⟨(loc 0).b,(loc 0).base+j,none⟩=some u) ∧
    ∀ j,j < cap0→∃ v,w'.cell? ⟨(loc 0).b,(loc 0).base+j,none⟩=some v∧w'.frozen? ⟨(loc 0).b,(loc 0).base+j,none⟩=false:=by
   rcases qd l.length with h0 | h0
   ·have hl:l=[]:=List.length_eq_zero_iff.1 h0
    subst hl
    have hs0:zmH []=[]:=rfl
    refine (Any.slices_Compact_string_empty L a0 cap0 w).mono λ e w' ⟨he,hw⟩=>⟨by rw [hs0];exact he,?_⟩
    subst hw
    exact ⟨Keep.refl _ w',λ j u h=>by rw [hs0] at h;simp at h,λ j hj=>hH0.there j (qe hj hn0)⟩
   ·have ha0':=ha0.resolve_left (by omega)
    subst ha0'
    have hHK:=zqR hE hH0
    have hblk:(loc 0).b < w.heap.size:=by
     obtain ⟨u,hu,_⟩:=hH0.there 0 (by omega)
     exact zlz hu
    have hcl:(Go.Lib.compact (l.map zl5)).length=(zmH l).length:=by unfold zmH;rw [qO]
    have:=Any.slices_Compact_string L (loc 0).b (loc 0).base cap0 (l.map zl5) w hHK (by simpa using hlen) (by simpa using hl0)
    rw [qO,hcl] at this
    refine this.mono λ e w' ⟨he,n,hw⟩=>⟨he,?_⟩
    obtain ⟨d',hd'⟩:∃ d',d'=(Go.Lib.compact (l.map zl5)++List.replicate (l.length - (zmH l).length) []).toArray:=⟨_,rfl⟩
    rw [← hd'] at hw
    have hd:d'.size=l.length:=by rw [hd',qg,qM,qN,hcl];omega
    have hw':=hw.trans (Go.Sort.grow_empty _).symm
    have hkeep:=zvl (w:=w) (blk:=(loc 0).b) (off:=(loc 0).base) (n:=n) (d':=d') (os:=#[]) hblk (by omega)
    rw [← hw',hd] at hkeep
    have hnew:∀ j,j < d'.size→w'.cell? ⟨(loc 0).b,(loc 0).base+j,none⟩=some (Go.Proofs.encStr d'[j]!)∧w'.frozen? ⟨(loc 0).b,(loc 0).base+j,none⟩=false:=λ j hj=>by
     rw [hw]
     exact Go.Sort.holds_putRow Go.Proofs.encStr (Go.Sort.ahead w n) (loc 0).b (loc 0).base _ d' (Go.Sort.holds_ahead Go.Proofs.encStr w n _ _ _ hHK) (by simpa using hd) j hj
    refine ⟨hkeep,λ j u h=>?_,λ j hj=>?_⟩
    ·have hj:=zmC h
     rw [qO] at hj
     have hu:u=.string (zmH l)[j]:=by simpa [hj] using h.symm
     rw [(hnew j (by omega)).1,hu,hd',zvm (M:=Go.Lib.compact (l.map zl5)) hj,zqQ]
     rfl
    ·obtain ⟨u,hu,hfz⟩:=hH0.there j (qe hj hn0)
     have hlt:=zlz hu
     by_cases hjR:j < d'.size
     ·exact ⟨_,hnew j hjR⟩
     ·exact ⟨u,(hkeep.cell _ _ hlt (λ h=>by have h3:(loc 0).base+j < (loc 0).base+l.length:=h.2.2;omega)).trans hu,(hkeep.frz _ _ hlt).trans hfz⟩
  refine key.mono λ e w' ⟨he,hk,hz,hall⟩=>?_
  obtain ⟨L',hs,hcv⟩:=zzJ hsit hE (R:=zmH l) hk hl0 hm0.2 (Nat.le_trans hc hl0) hz (id:=0) (by rfl) rfl rfl hn0 hall ha0
  refine ⟨_,_,he,Ctx.le_push _ L',rfl,?_,hcv⟩
  rw [zB1]
  exact hs
end Go.TL

import Derived.Test.YteonagfnhdlfcaaGreatDoorTlOpE
import Derived.Shelf.Spec.SlicesInsert
import Derived.Shelf.Spec.SlicesInsertGrow
open List renaming length_append → qM, length_map → qO, length_cons → qP, length_nil → qQ, length_singleton → qa, size_toArray → qb, length_take → qd, length_drop → qe, getElem_cons_zero → qh, drop_length → qj, getElem_map → qk, map_cons → qn
open Array renaming size_append → qc
open Nat renaming add_zero → qf, zero_mul → qg, le_refl → qi, lt_succ_self → ql, add_assoc → qm, lt_or_ge → qo, mul_one → qp
set_option linter.unusedSimpArgs false
set_option linter.unusedVariables false
noncomputable section
namespace Go.TL
open Go Go.Shelf Go.Proofs
inductive zn5 (w w':World) (b off c:Nat) (zs:List Value):Value→Prop
 | place (hk:Keep (λ x k=>x=b∧off≤k∧k < off+zs.length) w w') (hc:zs.length≤c) (hz:∀ j v,zs[j]?=some v→w'.cell? ⟨b,off+j,none⟩=some v) :
   zn5 w w' b off c zs (.slice (some ⟨b,off,none⟩) zs.length c)
 | fresh (G:Nat) (hk:Keep (λ _ _=>False) w w') (hc:zs.length≤G∧G≤9223372036854775807) (hall:∀ j,j < G→∃ v,w'.cell? ⟨w.heap.size,j,none⟩=some v)
   (hz:∀ j v,zs[j]?=some v→w'.cell? ⟨w.heap.size,j,none⟩=some v) (hf:∀ k,w'.frozen? ⟨w.heap.size,k,none⟩=false) :
   zn5 w w' b off c zs (.slice (some ⟨w.heap.size,0,none⟩) zs.length G)
theorem zoo (w:World):Keep (λ _ _=>False) w w.drew:=⟨rfl,rfl,rfl,qi _,λ _ _ _ _=>rfl,λ _ _ _=>rfl,λ _ _ _=>rfl,Nat.le_succ _⟩
theorem zw1 {cs:List Value} {x:Value} {i:Nat} (hi:i≤cs.length) {j:Nat} {v:Value} (h:(cs.take i++x :: cs.drop i)[j]?=some v) :
  (j < i∧cs[j]?=some v)∨(j=i∧v=x)∨(i < j∧(cs.drop i)[j - (i+1)]?=some v):=by
 have ht:(cs.take i).length=i:=by rw [qd];omega
 by_cases h1:j < i
 ·rw [List.getElem?_append_left (by omega),List.getElem?_take_of_lt h1] at h
  exact .inl ⟨h1,h⟩
 ·rw [List.getElem?_append_right (by omega),ht] at h
  by_cases h2:j=i
  ·subst h2
   rw [Nat.sub_self,List.getElem?_cons_zero] at h
   exact .inr (.inl ⟨rfl,(Option.some.inj h).symm⟩)
  ·rw [show j - i=j - (i+1)+1 by omega,List.getElem?_cons_succ] at h
   exact .inr (.inr ⟨by omega,h⟩)
theorem zw2 {cs:List Value} {x:Value} {i:Nat} (hi:i≤cs.length):(cs.take i++x :: cs.drop i).length=cs.length+1:=by
 rw [qM,qd,qP,qe]
 omega
theorem zmC {α:Type} {l:List α} {j:Nat} {v:α} (h:l[j]?=some v):j < l.length:=by
 rcases qo j l.length with h1 | h1
 ·exact h1
 ·rw [List.getElem?_eq_none h1] at h;cases h
theorem zrw {w:World} {b o:Nat} {vs:List Value} (h:∀ j,j < vs.length→(w.cell? ⟨b,o+j,none⟩).isSome=true) {j:Nat} {v:Value} (hj:vs[j]?=some v):(w.setCells b o vs).cell? ⟨b,o+j,none⟩=some v:=by
 have hlt:=zmC hj
 rw [World.cell?_setCells_in b vs o w h j hlt,← hj]
 simp [hlt]
theorem ztm {w w1:World} (hk1:Keep (λ _ _=>False) w w1) {b off c i:Nat} {cs:List Value} {x:Value} (hi:i≤cs.length) (hroom:cs.length+1≤c)
  (hsp:∀ j,j < cs.length+1→(w.cell? ⟨b,off+j,none⟩).isSome=true) (hcs:∀ j v,cs[j]?=some v→w.cell? ⟨b,off+j,none⟩=some v) :
  zn5 w ((w1.setCells b (off+(i+1)) (cs.drop i)).setCells b (off+i) [x]) b off c (cs.take i++x :: cs.drop i) (.slice (some ⟨b,off,none⟩) (cs.length+1) c):=by
 have hl:=zw2 (cs:=cs) (x:=x) hi
 have hdl:(cs.drop i).length=cs.length - i:=qe
 have hb:∀ j,j < cs.length+1→b < w.heap.size:=λ j hj=>by
  obtain ⟨v,hv⟩:=Option.isSome_iff_exists.1 (hsp j hj)
  exact zlz hv
 have hb0:=hb 0 (by omega)
 have hc1:∀ k,w1.cell? ⟨b,k,none⟩=w.cell? ⟨b,k,none⟩:=λ k=>hk1.cell b k hb0 id
 have hs1:∀ j,j < (cs.drop i).length→(w1.cell? ⟨b,off+(i+1)+j,none⟩).isSome=true:=λ j hj=>by
  rw [hc1,qm];exact hsp _ (by omega)
 rw [← hl]
 refine .place ?_ (by omega) λ j v hj=>?_
 ·refine (hk1.mono (E:=λ p k=>p=b∧off≤k∧k < off+(cs.take i++x :: cs.drop i).length) λ _ _ _ h=>h.elim).trans (((keep_setCells w1 b (off+(i+1)) (cs.drop i)).mono (E:=λ p k=>p=b∧off≤k∧k < off+(cs.take i++x :: cs.drop i).length) λ p q _ h=>⟨h.1,by omega,by omega⟩).trans (keep_setCells _ b (off+i) [x]) λ p q _ h=>⟨h.1,by omega,by have:=h.2.2;simp only [qa] at this;omega⟩) λ p q _ h=>h
 ·rcases zw1 hi hj with ⟨h1,h2⟩ | ⟨h1,h2⟩ | ⟨h1,h2⟩
  ·rw [World.cell?_setCells_out _ _ _ _ _ (λ _ _=>by simp only;omega),World.cell?_setCells_out _ _ _ _ _ (λ _ _=>by simp only;omega),hc1]
   exact hcs j v h2
  ·subst h1;subst h2
   have:=zrw (w:=w1.setCells b (off+(j+1)) (cs.drop j)) (b:=b) (o:=off+j) (vs:=[v]) (λ q hq=>by
    have:q=0:=by simpa using hq
    subst this
    rw [World.cell?_setCells_out _ _ _ _ _ (λ _ _=>by simp only;omega),hc1]
    exact hsp j (by omega)) (j:=0) (v:=v) rfl
   simpa using this
  ·rw [World.cell?_setCells_out _ _ _ _ _ (λ _ _=>by simp only [qa];omega)]
   have:=zrw hs1 h2
   rwa [show off+(i+1)+(j - (i+1))=off+j by omega] at this
theorem zAU {w:World} {b off c:Nat} {cs:List Value} {x:Value} (hroom:cs.length+1≤c)
  (hsp:∀ j,j < cs.length+1→(w.cell? ⟨b,off+j,none⟩).isSome=true) (hcs:∀ j v,cs[j]?=some v→w.cell? ⟨b,off+j,none⟩=some v) :
  zn5 w (w.setCells b (off+cs.length) [x]) b off c (cs.take cs.length++x :: cs.drop cs.length) (.slice (some ⟨b,off,none⟩) (cs.length+1) c):=by
 have h:=ztm (x:=x) (Keep.refl _ w) (qi cs.length) hroom hsp hcs
 rw [qj] at h ⊢
 exact h
theorem zvg {w w1:World} (hk:Keep (λ _ _=>False) w w1) (hs:w1.heap.size=w.heap.size) {b off c G:Nat} (T:TypeId) {vs:Array Value} {zs:List Value} (hG:G≤9223372036854775807) (hsz:vs.size=G) (hle:zs.length≤G) (hz:∀ (j:Nat) (v:Value),zs[j]?=some v→vs[j]?=some v) :
  zn5 w (w1.alloc (.cells vs T)) b off c zs (.slice (some ⟨w.heap.size,0,none⟩) zs.length G):=by
 have hce:∀ j,(w1.alloc (.cells vs T)).cell? ⟨w.heap.size,j,none⟩=vs[j]?:=λ j=>by rw [← hs];exact zlM w1 vs T j
 exact .fresh G (hk.trans (zma w1 (.cells vs T)) λ _ _ _ h=>h.elim) ⟨hle,hG⟩ (λ j hj=>⟨vs[j]'(by omega),by rw [hce];simp [hsz,hj]⟩) (λ j v h=>by rw [hce];exact hz j v h) (λ k=>by rw [← hs];simp)
theorem zvh {w:World} {b k:Nat} {v:Value} (h:w.cell? ⟨b,k,none⟩=some v):∃ T n,w.shape? b=some (T,n)∧k < n:=by
 unfold World.cell? at h
 unfold World.shape?
 cases hb:w.heap[b]? with
 | none=>rw [hb] at h;cases h
 | some o =>
  rw [hb] at h
  cases o with
  | cells c T r =>
   simp only [Option.isSome_none,Bool.false_eq_true,if_false] at h
   exact ⟨T,c.size,rfl,by
    rcases qo k c.size with h1 | h1
    ·exact h1
    ·rw [Array.getElem?_eq_none h1] at h;cases h⟩
  | _=>cases h
variable {P:Program} {ρ:Ren}
theorem zzy {w:World} {b off c i G:Nat} {cs:List Value} {x z:Value} {T:TypeId} (hz1:z.cells.size=1) (hi:i≤cs.length) (hG:cs.length+1≤G) (hG2:G≤9223372036854775807) :
  zn5 w ((((w.alloc (.cells ((cs.take i).toArray++Builtin.zeroCells z.cells (cs.length+1 - i)++Builtin.zeroCells z.cells (G - (cs.length+1))) T)).drew.setCells w.heap.size i [x]).drew).setCells w.heap.size (i+1) (cs.drop i)) b off c (cs.take i++x :: cs.drop i) (.slice (some ⟨w.heap.size,0,none⟩) (cs.length+1) G):=by
 have hl:=zw2 (cs:=cs) (x:=x) hi
 have hdl:(cs.drop i).length=cs.length - i:=qe
 have htl:(cs.take i).length=i:=by rw [qd];omega
 obtain ⟨ROW,hR⟩:∃ ROW,ROW=(cs.take i).toArray++Builtin.zeroCells z.cells (cs.length+1 - i)++Builtin.zeroCells z.cells (G - (cs.length+1)):=⟨_,rfl⟩
 have hsz:ROW.size=G:=by
  rw [hR]
  simp only [qc,qb,size_zeroCells,hz1,htl]
  omega
 rw [← hR]
 have hce:∀ j,(w.alloc (.cells ROW T)).cell? ⟨w.heap.size,j,none⟩=ROW[j]?:=λ j=>zlM w ROW T j
 have hthere:∀ j,j < G→((w.alloc (.cells ROW T)).drew.cell? ⟨w.heap.size,j,none⟩).isSome=true:=λ j hj=>by
  show ((w.alloc (.cells ROW T)).cell? ⟨w.heap.size,j,none⟩).isSome=true
  rw [hce];simp [hsz,hj]
 obtain ⟨W1,hW1⟩:∃ W1,W1=(w.alloc (.cells ROW T)).drew:=⟨_,rfl⟩
 have hk1:Keep (λ _ _=>False) w W1:=by rw [hW1];exact (zma w (.cells ROW T)).trans (zoo _) λ _ _ _ h=>h.elim
 have hc1:∀ j,W1.cell? ⟨w.heap.size,j,none⟩=ROW[j]?:=λ j=>by rw [hW1];exact hce j
 have hf1:∀ k,W1.frozen? ⟨w.heap.size,k,none⟩=false:=λ k=>by
  rw [hW1]
  show (w.alloc (.cells ROW T)).frozen? ⟨w.heap.size,k,none⟩=false
  simp
 rw [← hW1] at hthere ⊢
 obtain ⟨W2,hW2⟩:∃ W2,W2=(W1.setCells w.heap.size i [x]).drew:=⟨_,rfl⟩
 have hk2:Keep (λ _ _=>False) w W2:=by
  rw [hW2]
  exact (hk1.trans (keep_setCells W1 w.heap.size i [x]) λ p q hp h=>by obtain ⟨h,_⟩:=h;omega).trans (zoo _) λ _ _ _ h=>h.elim
 have hc2:∀ j,W2.cell? ⟨w.heap.size,j,none⟩=(W1.setCells w.heap.size i [x]).cell? ⟨w.heap.size,j,none⟩:=λ j=>by rw [hW2];rfl
 have hs1:∀ q,q < [x].length→(W1.cell? ⟨w.heap.size,i+q,none⟩).isSome=true:=λ q hq=>hthere _ (by simp only [qa] at hq;omega)
 have hth2:∀ j,j < G→(W2.cell? ⟨w.heap.size,j,none⟩).isSome=true:=λ j hj=>by
  rw [hc2]
  exact Go.Proofs.isSome_setCells w.heap.size [x] i W1 hs1 j (hthere j hj)
 have hs2:∀ q,q < (cs.drop i).length→(W2.cell? ⟨w.heap.size,i+1+q,none⟩).isSome=true:=λ q hq=>hth2 _ (by omega)
 rw [← hW2]
 rw [← hl]
 refine .fresh G (hk2.trans (keep_setCells W2 w.heap.size (i+1) (cs.drop i)) λ p q hp h=>by obtain ⟨h,_⟩:=h;omega) ⟨by omega,hG2⟩ (λ j hj=>Option.isSome_iff_exists.1 (Go.Proofs.isSome_setCells w.heap.size (cs.drop i) (i+1) W2 hs2 j (hth2 j hj))) (λ j v hj=>?_) (λ k=>?_)
 ·rcases zw1 hi hj with ⟨h1,h2⟩ | ⟨h1,h2⟩ | ⟨h1,h2⟩
  ·rw [World.cell?_setCells_out _ _ _ _ _ (λ _ _=>by simp only;omega),hc2,World.cell?_setCells_out _ _ _ _ _ (λ _ _=>by simp only;omega),hc1,hR]
   have:=zmC h2
   rw [Array.getElem?_append_left (by simp only [qc,qb,size_zeroCells,hz1,htl];omega),Array.getElem?_append_left (by simp only [qb,htl];omega)]
   simpa [h1] using h2
  ·subst h1;subst h2
   rw [World.cell?_setCells_out _ _ _ _ _ (λ _ _=>by simp only;omega),hc2]
   have:=zrw hs1 (j:=0) (v:=v) rfl
   simpa using this
  ·have:=zrw hs2 h2
   rwa [show i+1+(j - (i+1))=j by omega] at this
 ·rw [World.frozen?_setCells,hW2]
  show (W1.setCells w.heap.size i [x]).frozen? ⟨w.heap.size,k,none⟩=false
  rw [World.frozen?_setCells]
  exact hf1 k
theorem zB0 {w:World} {c:Ctx} {t:Bool} {v u:Value} (h:Cv w c (.lf t (.sc v)) u):u=v:=by
 cases h with | lf h=>cases h;rfl
theorem zs1:(Value.string ⟨#[]⟩).cells.size=1:=rfl
theorem zzz (L:Lays2.n22 P ρ) {b off c i vb voff vc:Nat} {cs:List Value} {x:Value} {w:World} (hi:i≤cs.length) (hnc:cs.length≤c) (hc63:c≤9223372036854775807) (hbig:(cs.length+1) * 16≤140737488355328) (hvb:vb≠b)
  (hcs:∀ j v,cs[j]?=some v→w.cell? ⟨b,off+j,none⟩=some v) (hsp:∀ j,j < c→(w.cell? ⟨b,off+j,none⟩).isSome=true) (hfz:∀ k,w.frozen? ⟨b,k,none⟩=false)
  (hv:w.cell? ⟨vb,voff,none⟩=some x) (hvf:∀ k,w.frozen? ⟨vb,k,none⟩=false) (h1c:∀ v∈cs,v.oneCell'=true) (h1x:x.oneCell'=true) :
  Calls P (ρ.f 22) #[.slice (some ⟨b,off,none⟩) cs.length c,.int .i64 i,.slice (some ⟨vb,voff,none⟩) 1 vc] w λ e w'=>∃ v,e=.returned v∧zn5 w w' b off c (cs.take i++x :: cs.drop i) v:=by
 have hvs:∀ (j:Nat) (v:Value),[x][j]?=some v→w.cell? ⟨vb,voff+j,none⟩=some v:=λ j v hj=>by
  have:j=0:=by have:=zmC hj;simpa using this
  subst this
  cases hj;exact hv
 have h1v:∀ v∈[x],v.oneCell'=true:=λ v hm=>by rw [List.mem_singleton.1 hm];exact h1x
 by_cases hroom:cs.length+1≤c
 ·obtain ⟨kB,TB,sB,lB⟩:∃ kB TB,w.shape? b=some (TB,kB)∧0 < kB:=by
   obtain ⟨u,hu⟩:=Option.isSome_iff_exists.1 (hsp 0 (by omega))
   obtain ⟨T,n,h1,h2⟩:=zvh hu
   exact ⟨n,T,h1,by omega⟩
  obtain ⟨TA,kA,sA,lA⟩:=zvh hv
  by_cases hin:i < cs.length
  ·refine (Any2.slices_Insert_string_shift L b off cs.length c i vb voff 1 vc cs [x] w hin (by omega) hroom hc63 hvb rfl rfl hcs (λ j hj=>hsp j (by omega)) (λ j _=>hfz _) hvs h1c h1v TA TB kA kB sA sB (by omega) (hvf _) (hvf _)).mono λ e w' ⟨he,hw⟩=>⟨_,he,?_⟩
   rw [hw]
   exact ztm (zoo w) hi hroom (λ j hj=>hsp j (by omega)) hcs
  ·have hie:i=cs.length:=by omega
   subst hie
   refine (Any2.slices_Insert_string_end_room L b off cs.length c vb voff 1 vc [x] w (by omega) hroom hc63 rfl (λ j hj=>by rw [qm];exact hsp _ (by omega)) (λ j _=>hfz _) hvs h1v).mono λ e w' ⟨he,hw⟩=>⟨_,he,?_⟩
   rw [hw]
   exact zAU hroom (λ j hj=>hsp j (by omega)) hcs
 ·have hG:cs.length+1≤grownCap w (cs.length+1) c (ρ.t 9):=grownCap_ge w _ _ _
  have hG2:grownCap w (cs.length+1) c (ρ.t 9)≤9223372036854775807:=grownCap_le_maxLen w _ _ _ (by simp only [maxLen];omega)
  by_cases hin:i < cs.length
  ·refine (Any2.slices_Insert_string_grow L b off cs.length c i vb voff 1 vc cs [x] w hin (by omega) hnc (by omega) hbig rfl rfl hcs hvs h1c h1v).mono λ e w' ⟨he,hw⟩=>⟨_,he,?_⟩
   rw [hw]
   exact zzy zs1 hi hG hG2
  ·have hie:i=cs.length:=by omega
   subst hie
   refine (Any2.slices_Insert_string_end_grow L (some ⟨b,off,none⟩) cs.length c vb voff 1 vc cs [x] w (by omega) hnc (by omega) hbig rfl rfl (λ h=>by cases h) (λ a ha j v hj=>by cases ha;rw [Addr.add_lit];exact hcs j v hj) hvs h1v).mono λ e w' ⟨he,hw⟩=>⟨_,he,?_⟩
   rw [hw,List.take_length,qj]
   have hl:(cs++[x]).length=cs.length+1:=by simp
   have:=zvg (b:=b) (off:=off) (c:=c) (zoo w) rfl (ρ.t 9) (vs:=(cs++[x]).toArray++Builtin.zeroCells (Value.string ⟨#[]⟩).cells (grownCap w (cs.length+1) c (ρ.t 9) - (cs.length+1))) (zs:=cs++[x]) hG2 (by simp only [qc,qb,size_zeroCells,zs1,hl];omega) (by omega) (λ j v hj=>by
    have:=zmC hj
    rw [Array.getElem?_append_left (by simpa using this)]
    simpa using hj)
   rw [hl] at this
   exact this
theorem zzA (L:Lays2.n22 P ρ) {base:Option Addr} {b off vb voff vc:Nat} {x:Value} {w:World} (hv:w.cell? ⟨vb,voff,none⟩=some x) (h1x:x.oneCell'=true) :
  Calls P (ρ.f 22) #[.slice base 0 0,.int .i64 0,.slice (some ⟨vb,voff,none⟩) 1 vc] w λ e w'=>∃ v,e=.returned v∧zn5 w w' b off 0 [x] v:=by
 have hvs:∀ (j:Nat) (v:Value),[x][j]?=some v→w.cell? ⟨vb,voff+j,none⟩=some v:=λ j v hj=>by
  have:j=0:=by have:=zmC hj;simpa using this
  subst this
  cases hj;exact hv
 have h1v:∀ v∈[x],v.oneCell'=true:=λ v hm=>by rw [List.mem_singleton.1 hm];exact h1x
 have hG:1≤grownCap w (0+1) 0 (ρ.t 9):=grownCap_ge w _ _ _
 have hG2:grownCap w (0+1) 0 (ρ.t 9)≤9223372036854775807:=grownCap_le_maxLen w _ _ _ (by simp only [maxLen];omega)
 refine (Any2.slices_Insert_string_end_grow L base 0 0 vb voff 1 vc [] [x] w (by omega) (qi _) (by omega) (by omega) rfl rfl (λ _=>rfl) (λ a ha j v hj=>by simp at hj) hvs h1v).mono λ e w' ⟨he,hw⟩=>⟨_,he,?_⟩
 rw [hw]
 exact zvg (b:=b) (off:=off) (c:=0) (zoo w) rfl (ρ.t 9) (vs:=([]++[x]).toArray++Builtin.zeroCells (Value.string ⟨#[]⟩).cells (grownCap w (0+1) 0 (ρ.t 9) - (0+1))) (zs:=[x]) hG2 (by simp only [qc,qb,size_zeroCells,zs1,List.nil_append,qa];omega) hG (λ j v hj=>by
  have:=zmC hj
  rw [Array.getElem?_append_left (by simpa using this)]
  simpa using hj)
theorem zqP {w:World} {c:Ctx} {L:Loc} {t:Bool} {E:ByteArray→List Leaf} (hE:∀ a,E a=[.sc (.string a)]) {l:List ByteArray} (h:Holds w c L (.arr t 1 (l.map E))) {j:Nat} {v:Value} (hj:(l.map Value.string)[j]?=some v):w.cell? ⟨L.b,L.base+j,none⟩=some v:=by
 obtain ⟨g1,g0,g2,g3⟩:=h
 have hlt:=zmC hj
 rw [qO] at hlt g1
 obtain ⟨u,hu,_⟩:=g2 j (by omega)
 have h3:=g3 j 0 (by simpa using hlt) (by simp [hE]) u (by simpa using hu)
 have hv:v=.string l[j]:=by simpa [hlt] using hj.symm
 simp only [qk,hE,qh] at h3
 cases h3 with
 | sc _=>rw [hv];exact hu
theorem zAV {w0 w w':World} {W0:Fr} {c:Ctx} {H:zkO} (s:Sit w0 W0 c H w) {E:ByteArray→List Leaf} (hE:∀ a,E a=[.sc (.string a)]) {b off cap:Nat} {v:Value} {R:List ByteArray} (out:zn5 w w' b off cap (R.map Value.string) v) (hcap:cap≤9223372036854775807)
  (hown:R.length≤cap→∃ id o,H id=some o∧b=(c.loc id).b∧off=(c.loc id).base∧cap≤(c.loc id).n) :
  ∃ L,Sit w0 W0 (c.push L) (upd (λ _=>none) c.nx (some (false,.arr false 1 (R.map E)))) w'∧Cv w' (c.push L) (.os c.nx 1 0 R.length R.length false) v:=by
 have hrep:∀ (w':World) (S:zkF) (L:Loc),(∀ j u,(R.map Value.string)[j]?=some u→w'.cell? ⟨L.b,L.base+j,none⟩=some u)→∀ i j (hi:i < (R.map E).length) (hj:j < ((R.map E)[i]).length) u,w'.cell? ⟨L.b,L.base+(i * 1+j),none⟩=some u→RepL w' S u (((R.map E)[i])[j]):=by
  intro w' S L hz i j hi hj u hu
  have hi':i < R.length:=by simpa using hi
  have hj0:j=0:=by simpa [hE] using hj
  subst hj0
  have:=hz i (.string R[i]) (by simp [hi'])
  rw [qp,qf,this] at hu
  cases hu
  simp only [qk,hE,qh]
  exact .sc rfl
 have hrows:∀ r∈R.map E,r.length=1:=λ r hr=>by
  obtain ⟨a,_,rfl⟩:=List.mem_map.1 hr
  rw [hE];rfl
 cases out with
 | place hk hc hz =>
  rw [qO] at hc hk ⊢
  obtain ⟨id,o,ho,hb,hoff,hn⟩:=hown hc
  have hH:=(s.own id o ho).2
  have hin:∀ p k,(p=b∧off≤k∧k < off+R.length)→inR (c.loc id) p k:=λ p k h=>.inl ⟨h.1.trans hb,by omega⟩
  refine ⟨Loc.flat b off cap,(s.push hk (Loc.flat b off cap) (H':=λ _=>none) (λ _ _ h=>by cases h) (λ j=>j=id) (λ _ _=>rfl) (λ p k _ h=>⟨id,o,rfl,ho,hin p k h⟩) (λ p k h=>.inr ⟨id,o,rfl,ho,.inl ⟨(zlE h).1.trans hb,by have:=(zlE h).2;omega⟩,λ _=>rfl⟩) ?_ (λ _ h=>h.elim)).1,?_⟩
  ·refine ⟨by simpa using hc,hrows,λ j hj=>?_,hrep w' _ (Loc.flat b off cap) hz⟩
   obtain ⟨u,hu,hf⟩:=hH.there j (by simp only at hj;omega)
   rw [← hb,← hoff] at hu hf
   have hlt:=zlz hu
   refine (?_:∃ v,w'.cell? ⟨b,off+j,none⟩=some v∧w'.frozen? ⟨b,off+j,none⟩=false)
   by_cases hjR:j < R.length
   ·exact ⟨_,hz j (.string R[j]) (by simp [hjR]),(hk.frz b _ hlt).trans hf⟩
   ·exact ⟨u,(hk.cell b _ hlt (λ h=>by omega)).trans hu,(hk.frz b _ hlt).trans hf⟩
  ·exact .os (ql _) hc ⟨hc,hcap⟩ (λ h=>by cases h) (.inr (by rw [Ctx.push_loc,qg,qf])) (by rw [Ctx.push_loc];simp)
 | fresh G hk hc hall hz hf =>
  rw [qO] at hc ⊢
  refine ⟨Loc.flat w.heap.size 0 G,(s.push hk (Loc.flat w.heap.size 0 G) (H':=λ _=>none) (λ _ _ h=>by cases h) (λ _=>False) (λ _ h=>h.elim) (λ _ _ _ h=>h.elim) (λ p k h=>.inl ⟨by rw [(zlE h).1];exact qi _,λ k'=>by rw [(zlE h).1];exact hf k'⟩) ?_ (λ _ h=>h.elim)).1,?_⟩
  ·refine ⟨by simpa using hc.1,hrows,λ j hj=>?_,hrep w' _ (Loc.flat w.heap.size 0 G) λ j u h=>by simpa using hz j u h⟩
   obtain ⟨u,hu⟩:=hall j hj
   exact ⟨u,by simpa using hu,by simpa using hf j⟩
  ·exact .os (ql _) hc.1 ⟨hc.1,hc.2⟩ (λ h=>by cases h) (.inr (by rw [Ctx.push_loc])) (by rw [Ctx.push_loc];simp)
theorem zAW {l:List ByteArray} {x:ByteArray} {i:Nat}:(l.map Value.string).take i++Value.string x :: (l.map Value.string).drop i=(l.take i++x :: l.drop i).map Value.string:=by
 rw [List.map_append,qn,List.map_take,List.map_drop]
theorem zx0 {l:List ByteArray}:∀ v∈l.map Value.string,v.oneCell'=true:=λ v hv=>by
 obtain ⟨a,_,rfl⟩:=List.mem_map.1 hv
 rfl
theorem zCF {H:HL} {G:zkO} (h:∀ id,hp H id=G id):hp H=G:=funext h
theorem zx1 (L:Lays2.n22 P ρ) (hent:Ent P (ρ.f 22)) {E:ByteArray→List Leaf} (hE:∀ a,E a=[.sc (.string a)]) {t0 t1 x0 x1:Bool} {m0 m1:Nat} {l:List ByteArray} {x:ByteArray} {i:Int} (h0:0≤i) (hi:i≤(l.length:Int)) (hbig:(l.length+1) * 16≤140737488355328) :
  Fn P (ρ.f 22) [.os 0 1 0 l.length m0 x0,.lf false (.sc (.int .i64 i)),.os 1 1 0 1 m1 x1] [(0,some (false,.arr t0 1 (l.map E))),(1,some (false,.arr t1 1 ([x].map E)))] 2
   (.os 2 1 0 (l.take i.toNat++x :: l.drop i.toNat).length (l.take i.toNat++x :: l.drop i.toNat).length false) [(0,none),(1,none),(2,some (false,.arr false 1 ((l.take i.toNat++x :: l.drop i.toNat).map E)))] 3:=by
 refine ⟨hent,λ w F loc vs hsit hvs hv=>?_⟩
 obtain ⟨u0,e0,c0⟩:=hv 0 (by simp)
 obtain ⟨u1,e1,c1⟩:=hv 1 (by simp)
 obtain ⟨u2,e2,c2⟩:=hv 2 (by simp)
 have hvs':vs=#[u0,u1,u2]:=by
  simp only [qP,qQ] at hvs
  refine Array.ext (by simpa using hvs) λ i h1 h2=>?_
  have hi:i=0∨i=1∨i=2:=by omega
  rcases hi with rfl | rfl | rfl
  ·rw [Array.getElem?_eq_getElem h1] at e0;cases e0;rfl
  ·rw [Array.getElem?_eq_getElem h1] at e1;cases e1;rfl
  ·rw [Array.getElem?_eq_getElem h1] at e2;cases e2;rfl
 subst hvs'
 have hu1:u1=.int .i64 i:=zB0 c1
 subst hu1
 obtain ⟨n,rfl⟩:=Int.eq_ofNat_of_zero_le h0
 have hn:n≤l.length:=by omega
 have hnn:((n:Int)).toNat=n:=Int.toNat_natCast n
 rw [hnn]
 have hH0:Holds w (zm6 F loc 2) (loc 0) (.arr t0 1 (l.map E)):=(hsit.own 0 (_,_) (by rfl)).2
 have hH1:Holds w (zm6 F loc 2) (loc 1) (.arr t1 1 ([x].map E)):=(hsit.own 1 (_,_) (by rfl)).2
 have hx:w.cell? ⟨(loc 1).b,(loc 1).base,none⟩=some (.string x):=by
  have:=zqP hE hH1 (j:=0) (v:=.string x) rfl
  simpa using this
 have hr0:inR (loc 1) (loc 1).b (loc 1).base:=.inl ⟨rfl,by have:=hH1.1;simp only [qn,List.map_nil,qa] at this;omega⟩
 have hvf:∀ k,w.frozen? ⟨(loc 1).b,k,none⟩=false:=λ k=>hsit.pl 1 _ (by rfl) _ _ hr0 k
 cases c2 with
 | os hid2 hl2 hm2 hx2 ha2 hn2 =>
  rename_i cap2 a2
  have ha2':=ha2.resolve_left (by omega)
  simp only [qg,qf] at ha2'
  subst ha2'
  cases c0 with
  | os hid0 hl0 hm0 hx0 ha0 hn0 =>
   rename_i cap0 a0
   simp only [qg,Nat.zero_add,qp] at hn0
   have hn0:cap0≤(loc 0).n:=hn0
   have key:Calls P (ρ.f 22) #[.slice a0 l.length cap0,.int .i64 (n:Int),.slice (some ⟨(loc 1).b,(loc 1).base,none⟩) 1 cap2] w λ e w'=>∃ v,e=.returned v∧zn5 w w' (loc 0).b (loc 0).base cap0 ((l.take n++x :: l.drop n).map Value.string) v:=by
    by_cases hc:cap0=0
    ·subst hc
     have hl:l=[]:=List.length_eq_zero_iff.1 (by omega)
     subst hl
     have:n=0:=by simpa using hn
     subst this
     exact zzA L hx rfl
    ·have ha0':=ha0.resolve_left hc
     simp only [qg,qf] at ha0'
     subst ha0'
     have hs0:∀ j,j < cap0→inR (loc 0) (loc 0).b ((loc 0).base+j):=λ j hj=>.inl ⟨rfl,by have:cap0≤(loc 0).n:=hn0;omega⟩
     have:=zzz L (b:=(loc 0).b) (off:=(loc 0).base) (c:=cap0) (i:=n) (vb:=(loc 1).b) (voff:=(loc 1).base) (vc:=cap2) (cs:=l.map Value.string) (x:=.string x) (w:=w) (by simpa using hn) (by simpa using hl0) hm0.2 (by simpa using hbig)
      (λ e=>hsit.dis 1 0 _ _ (by rfl) (by rfl) (by omega) _ _ ((loc 0).base+0) hr0 (by have h:=hs0 0 (by omega);rw [← e] at h;exact h))
      (λ j v hj=>zqP hE hH0 hj)
      (λ j hj=>by
       obtain ⟨u,hu,_⟩:=hH0.there j (Nat.lt_of_lt_of_le hj hn0)
       exact Option.isSome_iff_exists.2 ⟨u,hu⟩)
      (λ k=>hsit.pl 0 _ (by rfl) _ _ (hs0 0 (by omega)) k) hx hvf zx0 rfl
     rw [qO,zAW] at this
     exact this
   refine key.mono λ e w' ⟨v,he,out⟩=>?_
   obtain ⟨L',hs,hcv⟩:=zAV hsit hE out hm0.2 (λ _=>⟨0,_,by rfl,rfl,rfl,hn0⟩)
   refine ⟨v,_,he,Ctx.le_push _ L',rfl,?_,hcv⟩
   rw [zCF (H:=[(0,none),(1,none),(2,some (false,.arr false 1 ((l.take n++x :: l.drop n).map E)))]) (G:=upd (λ _=>none) 2 (some (false,.arr false 1 ((l.take n++x :: l.drop n).map E)))) λ id=>by
    rw [zkD,zkD,zkD]
    unfold upd
    by_cases q0:id=0
    ·subst q0;rfl
    ·by_cases q1:id=1
     ·subst q1;rfl
     ·simp only [q0,q1,if_false];rfl]
   exact hs
end Go.TL

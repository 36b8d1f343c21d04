import Derived.Test.YteonagfnhdlfcaaGreatDoorProg
import Derived.Shelf.SlicesQ.Load
import Derived.Shelf.SlSortCmp.InsertionK
import Derived.Laws.Cover1
import Derived.Lib.SlKept
import Derived.Test.YteonagfnhdlfcaaGreatDoorG0TlCore
open List renaming length_append → qM, length_replicate → qN, size_toArray → qb, getElem_toArray → qe
open Nat renaming lt_of_lt_of_le → qa, le_trans → qc, le_refl → qd
set_option linter.unusedSimpArgs false
set_option linter.unusedVariables false
noncomputable section
namespace Go.Proofs
open Go.Shelf Go.RowKit Go.Lib Go.Sort
structure Row (w:World) (blk off:Nat) (n:Nat) (d:Array Value) (w':World):Prop where
 os:w'.os=w.os
 tape:w'.tape=w.tape
 output:w'.output=w.output
 size:w.heap.size≤w'.heap.size
 block:∀ b,b < w.heap.size→b≠blk→w'.heap[b]?=w.heap[b]?
 cell:∀ k,(k < off∨off+n≤k)→w'.cell? ⟨blk,k,none⟩=w.cell? ⟨blk,k,none⟩
 frz:∀ k,w'.frozen? ⟨blk,k,none⟩=w.frozen? ⟨blk,k,none⟩
 len:d.size=n
 row:∀ j,j < n→w'.cell? ⟨blk,off+j,none⟩=some d[j]!
 dr:w.drawn≤w'.drawn
theorem Row.below {w:World} {blk off n:Nat} {d:Array Value} {W w':World} (h:Row w blk off n d W) (hb:Below W.heap.size W w') (hd:W.drawn≤w'.drawn) (hblk:blk < w.heap.size):Row w blk off n d w' where
 dr:=qc h.dr hd
 os:=hb.os.trans h.os
 tape:=hb.tape.trans h.tape
 output:=hb.output.trans h.output
 size:=qc h.size hb.size
 block b h1 h2:=(hb.block b (qa h1 h.size)).trans (h.block b h1 h2)
 cell k hk:=by rw [← h.cell k hk];unfold World.cell?;rw [hb.block blk (qa hblk h.size)]
 frz k:=by rw [← h.frz k];unfold World.frozen?;rw [hb.block blk (qa hblk h.size)]
 len:=h.len
 row j hj:=by rw [← h.row j hj];unfold World.cell?;rw [hb.block blk (qa hblk h.size)]
theorem Row.set {w:World} {blk off n:Nat} {d:Array Value} {W:World} (h:Row w blk off n d W) {i:Nat} (hi:i < n) (v:Value):Row w blk off n (d.setIfInBounds i v) (W.setCell ⟨blk,off+i,none⟩ v) where
 dr:=h.dr
 os:=h.os
 tape:=h.tape
 output:=h.output
 size:=by simpa using h.size
 block b h1 h2:=(Below.heap_setCell W _ v b h2).trans (h.block b h1 h2)
 cell k hk:=(World.cell?_setCell_other _ _ _ _ (by simp only [ne_eq,Addr.mk.injEq];omega)).trans (h.cell k hk)
 frz k:=(World.frozen?_setCell _ _ _ _).trans (h.frz k)
 len:=by simpa using h.len
 row j hj:=by
  have hl:=h.len
  by_cases e:j=i
  ·subst e
   rw [getElem!_set_same d j v (by omega)]
   exact World.cell?_setCell_same _ _ _ (by rw [h.row j hj])
  ·rw [getElem!_set_other d i j v e]
   exact (World.cell?_setCell_other _ _ _ _ (by simp only [ne_eq,Addr.mk.injEq];omega)).trans (h.row j hj)
theorem Row.fill {w:World} {blk off n:Nat} {dk d2:Array Value} {W:World} (h:Row w blk off n dk W) (hblk:blk < w.heap.size) {i:Nat} (hi:i≤n) {z:Value} (hl:d2.size=n) (h1:∀ j,j < i→d2[j]! = dk[j]!) (h2:∀ j,i≤j→j < n→d2[j]! = z) :
  Row w blk off n d2 (W.setCells blk (off+i) (List.replicate (n - i) z)):=by
 have K:=Go.TL.keep_setCells W blk (off+i) (List.replicate (n - i) z)
 have hb:blk < W.heap.size:=qa hblk h.size
 rw [qN] at K
 refine ⟨K.os.trans h.os,K.tape.trans h.tape,K.output.trans h.output,qc h.size K.size,λ b hb1 hne=>?_,λ k hk=>?_,λ k=>(K.frz blk k hb).trans (h.frz k),hl,λ j hj=>?_,qc h.dr K.dr⟩
 ·exact (K.blk b (qa hb1 h.size) λ k hk=>hne hk.1).trans (h.block b hb1 hne)
 ·exact (K.cell blk k hb λ hk2=>by omega).trans (h.cell k hk)
 ·by_cases hji:j < i
  ·rw [h1 j hji]
   exact (K.cell blk (off+j) hb λ hk2=>by omega).trans (h.row j hj)
  ·have:=World.cell?_setCells_in blk (List.replicate (n - i) z) (off+i) W (λ t ht=>by
    rw [qN] at ht
    rw [show off+i+t=off+(i+t) by omega,h.row (i+t) (by omega)];rfl) (j - i) (by rw [qN];omega)
   rw [show off+i+(j - i)=off+j by omega] at this
   rw [this,h2 j (by omega) hj]
   simp
theorem zwl {P:Program} (w:World) (t e ty:TypeId) (z c0:Value) (ht:P.underlying t=some (.slice e)) (hv:∀ w,(zeroValue e).run P w=.ok z w) (hz:z.cells=#[c0]) (h1:c0.oneCell'=true) (b o n c:Nat) (hn:0 < n)
  (hc:∀ j,j < n→(w.cell? ⟨b,o+j,none⟩).isSome=true) (hf:∀ j,j < n→w.frozen? ⟨b,o+j,none⟩=false) :
  (Builtin.clear_ #[t] ty #[.slice (some ⟨b,o,none⟩) n c]).run P w=.ok (.tuple #[]) (w.setCells b o (List.replicate n c0)):=by
 have hrow:(Builtin.zeroCells z.cells n).toList=List.replicate n c0:=List.ext_getElem (by simp [Builtin.zeroCells,hz]) λ i h1 h2=>by simp [Builtin.zeroCells,hz,Nat.mod_one]
 have hst:=run_storeCells_cells (P:=P) b o (List.replicate n c0) 0 w (by simpa using hc) (by simpa using hf) λ v hv'=>by rw [List.eq_of_mem_replicate hv'];exact h1
 rw [Nat.add_zero] at hst
 cases n with
 | zero=>omega
 | succ m=>simp [Builtin.clear_,run_underlying ht,hv,hrow,hst]
set_option maxHeartbeats 4000000 in
theorem Tryz.del217 (blk off cap g:Nat) (lb:Array Value) (d:Array Value) (p:Value→Bool) (w:World) (eg:∀ args w,(callFunc g args).run Tryz.prog w=.ok (.enter g args) w)
  (hsz:d.size≤9223372036854775807) (hcap:d.size≤cap) (hblk:blk < w.heap.size) (hrow:Row w blk off d.size d w) (hfz:∀ j,j < d.size→w.frozen? ⟨blk,off+j,none⟩=false)
  (hsl:∀ j,j < d.size→∃ a n c,d[j]! = .slice a n c)
  (k0:Nat) (hk0:k0 < d.size) (hpk:p d[k0]! = true) (hall:∀ j,j < k0→p d[j]! = false)
  (hidx:Calls Tryz.prog 135 #[.slice (some ⟨blk,off,none⟩) d.size cap,.func (.func g) #[] lb] w λ e w'=>e=.returned (.int .i64 k0)∧Row w blk off d.size d w')
  (hp:∀ (W:World) (dk:Array Value) (u:Value),Row w blk off d.size dk W→(∃ j,j < d.size∧d[j]! = u)→Calls Tryz.prog g (#[.agg #[u]]++lb) W λ e w'=>e=.returned (.bool (p u))∧Below W.heap.size W w'∧W.drawn≤w'.drawn) :
  Calls Tryz.prog 217 #[.slice (some ⟨blk,off,none⟩) d.size cap,.func (.func g) #[] lb] w λ e w'=>e=.returned (.slice (some ⟨blk,off,none⟩) (d.toList.filter λ x=>!p x).length cap) ∧
   Row w blk off d.size ((d.toList.filter λ x=>!p x)++List.replicate (d.size - (d.toList.filter λ x=>!p x).length) (Value.slice none 0 0)).toArray w':=by
 obtain ⟨kp,HK⟩:∃ kp:Nat→Bool,Hid (kp=λ j=>!p d[j]!):=⟨_,rfl⟩
 have hfil:(d.toList.filter λ x=>!p x)=keptUpTo kp d d.size:=by rw [HK.out];exact (keptUpTo_filter (λ x=>!p x) d).symm
 rw [hfil]
 have hkeep:∀ j,j < k0→kp j=true:=λ j hj=>by rw [HK.out];show (!p d[j]!)=true;rw [hall j hj];rfl
 have hdrop:kp k0=false:=by rw [HK.out];show (!p d[k0]!)=false;rw [hpk];rfl
 have hne1:((k0:Int) == -1)=false:=beq_eq_false_iff_ne.2 (by omega)
 have HP:Aside _:=hp
 have HF:Aside _:=hfz
 have HS:Aside _:=hsl
 clear hp hfz hsl hpk hall hrow
 go_enter Tryz.func217,Tryz.ntmps217
 go_wp2_with (go_at_call 135;refine hidx.mono ?_;rintro e w' ⟨rfl,hr⟩)
 go_loopg [5,6,7] d.size (λ gg s5 s6 _ wr=>∃ (i j:Nat) (dk:Array Value),s5=.int .i64 i∧s6=.int .i64 j∧j≤d.size∧d.size - j≤gg∧Aside (Row w blk off d.size dk wr)∧Aside (KeptInv kp d j i dk))
 case atStart=>exact ⟨k0,k0+1,d,rfl,by go_num,by omega,by omega,hr,KeptInv.start hkeep hdrop⟩
 case round =>
  obtain ⟨i,j,dk,rfl,rfl,hjd,hgg,R2,I2⟩:=hrel
  have hI:=I2.out
  have hR:=R2.out
  have hij:=hI.lt
  have hds:=hI.size
  by_cases hlt:j < d.size
  ·have hltz:(j:Int) < (d.size:Int):=by omega
   have cj:=hR.row j hlt
   have ci:=hR.row i (by omega)
   have fi:wr.frozen? ⟨blk,off+i,none⟩=false:=(hR.frz _).trans (HF.out i (by omega))
   rw [hI.high j (by omega)] at cj
   have hbw:blk < wr.heap.size:=qa hblk hR.size
   clear hI hR
   obtain ⟨ua,un,uc,hu⟩:=HS.out j hlt
   rw [hu] at cj
   generalize dk[i]! = old at ci
   have C:Aside (d[j]! = .slice ua un uc):=hu
   clear hu
   have R3:Row w blk off d.size dk (wr.alloc (Obj.cells #[Value.slice ua un uc] 38)):=R2.out.below ((Below.refl _ _).alloc (qd _) _) (qd _) hblk
   have hpj:=HP.out _ dk (.slice ua un uc) R3 ⟨j,hlt,C.out⟩
   cases hq:p (.slice ua un uc) with
   | false =>
    rw [hq] at hpj
    have HR3:Aside _:=R3
    clear R3
    go_wp2_with (go_at_fn g;refine hpj.mono ?_;rintro e w' ⟨rfl,hb,hdr⟩;have n1:w'.cell? ⟨wr.heap.size,0,none⟩=some (Value.slice ua un uc):=(hb.cell (p:=⟨wr.heap.size,0,none⟩) (by simp)).trans (by rw [World.cell?_alloc_new];rfl);have n2:w'.cell? ⟨blk,off+i,none⟩=some old:=(hb.cell (p:=⟨blk,off+i,none⟩) (by simp;omega)).trans ((World.cell?_alloc_lt wr _ _ hbw).trans ci);have n3:w'.frozen? ⟨blk,off+i,none⟩=false:=(hb.frozen (p:=⟨blk,off+i,none⟩) (by simp;omega)).trans ((World.frozen?_alloc_old wr _ _ (Nat.ne_of_lt hbw)).trans fi))
    go_roundg (d.size - (j+1))
    case measure=>omega
    case rel =>
     refine ⟨i+1,j+1,dk.setIfInBounds i (.slice ua un uc),by go_num,by go_num,by omega,qd _,(show Aside _ from ?_),(show Aside _ from ?_)⟩
     ·exact (HR3.out.below hb hdr hblk).set (by omega) _
     ·have:=I2.out.keep hlt (by rw [HK.out];show (!p d[j]!)=true;rw [C.out,hq];rfl)
      rwa [C.out] at this
   | true =>
    rw [hq] at hpj
    have HR3:Aside _:=R3
    clear R3
    go_wp2_with (go_at_fn g;refine hpj.mono ?_;rintro e w' ⟨rfl,hb,hdr⟩)
    go_roundg (d.size - (j+1))
    case measure=>omega
    case rel=>exact ⟨i,j+1,dk,rfl,by go_num,by omega,qd _,HR3.out.below hb hdr hblk,I2.out.skip (by rw [HK.out];show (!p d[j]!)=false;rw [C.out,hq];rfl)⟩
  ·obtain rfl:j=d.size:=by omega
   have hltz:¬ (d.size:Int) < (d.size:Int):=by omega
   have hcl:∀ ty,(Builtin.clear_ #[23] ty #[.slice (some ⟨blk,off+i,none⟩) (d.size - i) (cap - i)]).run Tryz.prog wr=.ok (.tuple #[]) (wr.setCells blk (off+i) (List.replicate (d.size - i) (.slice none 0 0))):=λ ty =>
    zwl wr 23 38 ty (.agg #[.slice none 0 0]) (.slice none 0 0) Tryz.underlying23 Tryz.zeroValue38 rfl rfl blk (off+i) _ _ (by omega) (λ t ht=>by rw [show off+i+t=off+(i+t) by omega,hR.row (i+t) (by omega)];rfl) λ t ht=>by rw [show off+i+t=off+(i+t) by omega,hR.frz];exact HF.out (i+t) (by omega)
   clear hI hR
   go_wp2
   go_ret
   have hI:=I2.out
   have hlen:=hI.len
   refine ⟨by rw [hlen];rfl,R2.out.fill hblk (by omega) (by rw [qb,qM,qN,hlen];omega) (λ t ht=>?_) λ t ht1 ht2=>?_⟩
   ·have h1:=hI.low t ht
    rw [getElem!_pos _ t (by rw [qb,qM,qN,hlen];omega),qe,List.getElem_append_left (by omega)]
    rw [List.getElem?_eq_getElem (by omega)] at h1
    exact Option.some.inj h1
   ·rw [getElem!_pos _ t (by rw [qb,qM,qN,hlen];omega),qe,List.getElem_append_right (by omega)]
    simp
set_option maxHeartbeats 2000000 in
theorem Tryz.idx135 (blk off cap g:Nat) (lb:Array Value) (d:Array Value) (p:Value→Bool) (w:World) (eg:∀ args w,(callFunc g args).run Tryz.prog w=.ok (.enter g args) w)
  (hsz:d.size≤9223372036854775807) (hcap:d.size≤cap) (hblk:blk < w.heap.size) (hrow:Row w blk off d.size d w)
  (hp:∀ (W:World) (dk:Array Value) (u:Value),Row w blk off d.size dk W→(∃ j,j < d.size∧d[j]! = u)→Calls Tryz.prog g (#[.agg #[u]]++lb) W λ e w'=>e=.returned (.bool (p u))∧Below W.heap.size W w'∧W.drawn≤w'.drawn) :
  Calls Tryz.prog 135 #[.slice (some ⟨blk,off,none⟩) d.size cap,.func (.func g) #[] lb] w λ e w'=>(∃ k:Int,e=.returned (.int .i64 k)∧((k=-1∧∀ j,j < d.size→p d[j]! = false)∨∃ k0:Nat,k0 < d.size∧k=k0∧p d[k0]! = true∧∀ j,j < k0→p d[j]! = false))∧Row w blk off d.size d w':=by
 have HP:Aside _:=hp
 have HRW:Aside _:=hrow
 clear hp hrow
 go_enter Tryz.func135,Tryz.ntmps135
 go_wp2
 go_loopg [5,8] d.size (λ gg _ s8 wr=>∃ kk:Nat,kk≤d.size∧d.size - kk≤gg∧s8=.int .i64 kk∧Aside (Row w blk off d.size d wr)∧Aside (∀ j,j < kk→p d[j]! = false))
 case atStart=>exact ⟨0,Nat.zero_le _,by omega,rfl,HRW.out,λ j hj=>absurd hj (Nat.not_lt_zero _)⟩
 case round =>
  obtain ⟨kk,hkk,hg,rfl,R2,A⟩:=hrel
  by_cases hlt:kk < d.size
  ·have hltz:(kk:Int) < (d.size:Int):=by omega
   have ck:=R2.out.row kk hlt
   have hcall:=HP.out wr d d[kk]! R2.out ⟨kk,hlt,rfl⟩
   generalize hy:d[kk]! = y at ck hcall
   have B:Aside (d[kk]! = y):=hy
   clear hy
   cases hq:p y with
   | true =>
    rw [hq] at hcall
    go_wp2_with (go_at_fn g;refine hcall.mono ?_;rintro e w' ⟨rfl,hb,hdr⟩)
    go_ret
    exact ⟨⟨_,rfl,.inr ⟨kk,hlt,rfl,by rw [B.out];exact hq,A.out⟩⟩,R2.out.below hb hdr hblk⟩
   | false =>
    rw [hq] at hcall
    go_wp2_with (go_at_fn g;refine hcall.mono ?_;rintro e w' ⟨rfl,hb,hdr⟩)
    go_roundg (d.size - (kk+1))
    case measure=>omega
    case rel =>
     refine ⟨kk+1,by omega,by omega,by go_num,(show Aside _ from R2.out.below hb hdr hblk),(show Aside _ from λ j hj=>?_)⟩
     by_cases e:j=kk
     ·subst e
      rw [B.out];exact hq
     ·exact A.out j (by omega)
  ·have hltz:¬ (kk:Int) < (d.size:Int):=by omega
   have:kk=d.size:=by omega
   subst this
   go_wp2
   go_ret
   exact ⟨⟨_,rfl,.inl ⟨rfl,A.out⟩⟩,R2.out⟩
end Go.Proofs
namespace Go.Proofs
open Go.Shelf Go.RowKit Go.Lib Go.Sort
theorem ztn (q:Nat→Bool):∀ n,(∀ j,j < n→q j=false)∨∃ k,k < n∧q k=true∧∀ j,j < k→q j=false
 | 0=>.inl λ j hj=>by omega
 | n+1=>by
  rcases ztn q n with h | ⟨k,h1,h2,h3⟩
  ·cases hq:q n
   ·exact .inl λ j hj=>by
     rcases Nat.lt_succ_iff_lt_or_eq.1 hj with h' | h'
     ·exact h j h'
     ·rw [h'];exact hq
   ·exact .inr ⟨n,by omega,hq,h⟩
  ·exact .inr ⟨k,by omega,h2,h3⟩
set_option maxHeartbeats 2000000 in
theorem Tryz.del217_none (blk off cap g:Nat) (lb:Array Value) (d:Array Value) (w:World)
  (hsz:d.size≤9223372036854775807) (hcap:d.size≤cap)
  (hidx:Calls Tryz.prog 135 #[.slice (some ⟨blk,off,none⟩) d.size cap,.func (.func g) #[] lb] w λ e w'=>e=.returned (.int .i64 (-1))∧Row w blk off d.size d w') :
  Calls Tryz.prog 217 #[.slice (some ⟨blk,off,none⟩) d.size cap,.func (.func g) #[] lb] w λ e w'=>e=.returned (.slice (some ⟨blk,off,none⟩) d.size cap)∧Row w blk off d.size d w':=by
 go_enter Tryz.func217,Tryz.ntmps217
 go_wp2_with (go_at_call 135;refine hidx.mono ?_;rintro e w' ⟨rfl,hr⟩)
 go_ret
 exact ⟨rfl,hr⟩
theorem Tryz.delAll (blk off cap g:Nat) (lb:Array Value) (d:Array Value) (p:Value→Bool) (w:World) (eg:∀ args w,(callFunc g args).run Tryz.prog w=.ok (.enter g args) w)
  (hsz:d.size≤9223372036854775807) (hcap:d.size≤cap) (hblk:blk < w.heap.size) (hrow:Row w blk off d.size d w) (hfz:∀ j,j < d.size→w.frozen? ⟨blk,off+j,none⟩=false)
  (hsl:∀ j,j < d.size→∃ a n c,d[j]! = .slice a n c)
  (hp:∀ (W:World) (dk:Array Value) (u:Value),Row w blk off d.size dk W→(∃ j,j < d.size∧d[j]! = u)→Calls Tryz.prog g (#[.agg #[u]]++lb) W λ e w'=>e=.returned (.bool (p u))∧Below W.heap.size W w'∧W.drawn≤w'.drawn) :
  Calls Tryz.prog 217 #[.slice (some ⟨blk,off,none⟩) d.size cap,.func (.func g) #[] lb] w λ e w'=>e=.returned (.slice (some ⟨blk,off,none⟩) (d.toList.filter λ x=>!p x).length cap) ∧
   Row w blk off d.size ((d.toList.filter λ x=>!p x)++List.replicate (d.size - (d.toList.filter λ x=>!p x).length) (Value.slice none 0 0)).toArray w':=by
 have hI:=Tryz.idx135 blk off cap g lb d p w eg hsz hcap hblk hrow hp
 rcases ztn (λ j=>p d[j]!) d.size with hall | ⟨k0,hk0,hpk,hall⟩
 ·have hf:(d.toList.filter λ x=>!p x)=d.toList:=List.filter_eq_self.2 λ x hx=>by
   obtain ⟨j,hj,rfl⟩:=List.getElem_of_mem hx
   have hj':j < d.size:=by simpa using hj
   have:=hall j hj'
   rw [getElem!_pos d j hj'] at this
   simpa using this
  rw [hf]
  refine (Tryz.del217_none blk off cap g lb d w hsz hcap (hI.mono λ e w' ⟨⟨k,he,hk⟩,hr⟩=>⟨?_,hr⟩)).mono λ e w' ⟨he,hr⟩=>⟨by rw [he];simp,?_⟩
  ·rcases hk with ⟨hk,_⟩ | ⟨k1,h1,_,h2,_⟩
   ·rw [he,hk]
   ·have:=hall k1 h1
    rw [h2] at this;cases this
  ·simpa using hr
 ·exact Tryz.del217 blk off cap g lb d p w eg hsz hcap hblk hrow hfz hsl k0 hk0 hpk hall (hI.mono λ e w' ⟨⟨k,he,hk⟩,hr⟩=>⟨by
   rcases hk with ⟨_,hk⟩ | ⟨k1,h1,e1,h2,h3⟩
   ·have:=hk k0 hk0
    rw [hpk] at this;cases this
   ·have:k1=k0:=by
     rcases Nat.lt_trichotomy k1 k0 with h | h | h
     ·have:=hall k1 h;rw [h2] at this;cases this
     ·exact h
     ·have:=h3 k0 h;rw [hpk] at this;cases this
    rw [he,e1,this],hr⟩) hp
set_option maxHeartbeats 2000000 in
theorem Tryz.idx135_empty (a:Option Addr) (cap g:Nat) (lb:Array Value) (w:World) :
  Calls Tryz.prog 135 #[.slice a 0 cap,.func (.func g) #[] lb] w λ e w'=>e=.returned (.int .i64 (-1))∧w'=w:=by
 go_enter Tryz.func135,Tryz.ntmps135
 go_wp2
 go_loopg [8] 0 (λ gg s8 wr=>s8=.int .i64 0∧wr=w)
 case atStart=>exact ⟨rfl,rfl⟩
 case round =>
  obtain ⟨rfl,rfl⟩:=hrel
  go_wp2
  go_ret
  exact ⟨rfl,rfl⟩
set_option maxHeartbeats 2000000 in
theorem Tryz.del217_empty (a:Option Addr) (cap g:Nat) (lb:Array Value) (w:World) :
  Calls Tryz.prog 217 #[.slice a 0 cap,.func (.func g) #[] lb] w λ e w'=>e=.returned (.slice a 0 cap)∧w'=w:=by
 have hidx:=Tryz.idx135_empty a cap g lb w
 go_enter Tryz.func217,Tryz.ntmps217
 go_wp2_with (go_at_call 135;refine hidx.mono ?_;rintro e w' ⟨rfl,rfl⟩)
 go_ret
 exact ⟨rfl,rfl⟩
end Go.Proofs

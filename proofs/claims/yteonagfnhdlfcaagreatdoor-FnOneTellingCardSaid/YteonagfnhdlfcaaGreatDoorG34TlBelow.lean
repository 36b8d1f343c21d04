import Derived.Test.YteonagfnhdlfcaaGreatDoorTlStep
import Derived.Below
import Derived.Shelf.Strings.SlTrimAscii
set_option linter.unusedSimpArgs false
set_option linter.unusedVariables false
noncomputable section
namespace Go.TL
open Go Go.RowKit
theorem zwi {w w':World} (h:Below w.heap.size w w') (hd:w.drawn≤w'.drawn):Keep (λ _ _=>False) w w' where
 os:=h.os
 tape:=h.tape
 output:=h.output
 size:=h.size
 cell b k hb _:=by unfold World.cell?;rw [h.block b hb]
 frz b k hb:=by unfold World.frozen?;rw [h.block b hb]
 blk b hb _:=h.block b hb
 dr:=hd
theorem zzx {w0 w w':World} {W0:Fr} {c:Ctx} {H:zkO} (s:Sit w0 W0 c H w) (k:Keep (λ _ _=>False) w w'):Sit w0 W0 c H w'∧Same c w w':=by
 have hf:∀ b j,b < w.heap.size→(λ _ _=>False:zkF) b j→∃ id o,H id=some o∧inR (c.loc id) b j:=λ _ _ _ h=>h.elim
 have hs:=s.same k hf
 refine ⟨⟨s.keeps k hf,λ id o h=>⟨(s.own id o h).1,(s.own id o h).2.mono (.refl c) hs λ b j hr=>⟨k.cell b j (s.lt h hr) (λ z=>z.elim),k.frz b j (s.lt h hr)⟩⟩,s.dis,s.sep,s.old,λ b j h=>⟨(s.new b j h).1,Nat.lt_of_lt_of_le (s.new b j h).2 k.size⟩,λ b j v he=>?_,λ id o h b j hr k'=>(k.frz b k' (s.lt h hr)).trans (s.pl id o h b j hr k'),λ id o h x hx=>⟨Nat.lt_of_lt_of_le (s.mo id o h x hx).1 k.size,(s.mo id o h x hx).2⟩⟩,hs⟩
 have ha:=s.aside k hf he
 exact ⟨(s.res b j v he).1,(s.res b j v he).2.1,ha.1,ha.2,(s.res b j v he).2.2.2.2⟩
theorem zwQ {w:World} {c:Ctx} {t:Bool} {v u:Value} (h:Cv w c (.lf t (.sc v)) u):u=v:=by
 cases h with | lf h=>cases h;rfl
theorem zAS {P:Program} {f:FuncId} (hent:Ent P f) {a b r:ByteArray} (h:∀ w,Calls P f #[.string a,.string b] w λ e w'=>e=.returned (.string r)∧Below w.heap.size w w'∧w.drawn≤w'.drawn) :
  Fn P f [.lf false (.sc (.string a)),.lf false (.sc (.string b))] [] 0 (.lf false (.sc (.string r))) [] 0:=by
 refine ⟨hent,λ w F loc vs hsit hvs hv=>?_⟩
 obtain ⟨u0,e0,c0⟩:=hv 0 (by simp)
 obtain ⟨u1,e1,c1⟩:=hv 1 (by simp)
 have hvs':vs=#[.string a,.string b]:=by
  simp only [List.length_cons,List.length_nil] at hvs
  refine Array.ext (by simpa using hvs) λ i h1 h2=>?_
  have hi:i=0∨i=1:=by omega
  rcases hi with rfl | rfl
  ·rw [Array.getElem?_eq_getElem h1] at e0;cases e0;exact zwQ c0
  ·rw [Array.getElem?_eq_getElem h1] at e1;cases e1;exact zwQ c1
 rw [hvs']
 refine (h w).mono λ e w' ⟨he,hb,hd⟩=>?_
 exact ⟨_,_,he,.refl _,rfl,(zzx hsit (zwi hb hd)).1,.lf (.sc rfl)⟩
end Go.TL
namespace Go.TL
open Go Go.Shelf Go.RowKit Go.Proofs
variable {P:Program} {ρ:Go.Shelf.Ren}
theorem zvf {s:ByteArray} (h:s.size=0):s.data.toList=[]:=List.eq_nil_of_length_eq_zero (by rw [← Lib.size_eq];exact h)
theorem zAT (L:Lays.n160 P ρ) (h116:(P.info? (ρ.t 116)).map (λ i=>(i.zero,i.size))=some (some (.agg (Array.replicate 256 (.bool false))),256)) (s cutset:ByteArray) (w:World) (hs:s.size≤9223372036854775807) (hcs:cutset.size < 4294967281)
  (ha:∀ (j:Nat) b,cutset.data.toList[j]?=some b→b.toNat < 128) :
  Calls P (ρ.f 160) #[.string s,.string cutset] w λ e w'=>e=.returned (.string ⟨(Lib.trimS s.data.toList cutset.data.toList).toArray⟩)∧Below w.heap.size w w'∧w.drawn≤w'.drawn:=by
 have idle:∀ {w':World},w'=w→Below w.heap.size w w'∧w.drawn≤w'.drawn:=λ h=>by rw [h];exact ⟨Below.refl _ _,Nat.le_refl _⟩
 rcases Nat.lt_trichotomy cutset.size 1 with h | h | h
 ·have hc0:cutset.size=0:=by omega
  refine (Any.strings_Trim_empty L s cutset w (.inr hc0)).mono λ e w' ⟨h1,h2⟩=>⟨?_,idle h2⟩
  have e1:Lib.trimS s.data.toList cutset.data.toList=s.data.toList:=by rw [zvf hc0];unfold Lib.trimS;rw [Lib.trimRightS_none,Lib.trimLeftS_none]
  rw [h1,e1,Lib.mk_data]
 ·match hh:cutset.data.toList,(show cutset.data.toList.length=1 by rw [← Lib.size_eq];exact h) with
  | [c],_ =>
   have e1:cutset=⟨#[c]⟩:=(Lib.mk_data cutset).symm.trans (by rw [hh])
   have h1:=Any.strings_Trim_one L s c (ha 0 c (by rw [hh];rfl)) w hs
   rw [Lib.trimS_one,e1]
   refine h1.mono λ e w' ⟨g1,g2⟩=>⟨g1,?_⟩
   rcases g2 with g2 | g2
   ·exact idle g2
   ·rw [g2];exact ⟨(Below.refl _ _).drew,Nat.le_succ _⟩
 ·rcases Nat.eq_zero_or_pos s.size with h0 | h0
  ·refine (Any.strings_Trim_empty L s cutset w (.inl h0)).mono λ e w' ⟨h1,h2⟩=>⟨?_,idle h2⟩
   have e1:s.data.toList=[]:=zvf h0
   have e2:s=⟨#[]⟩:=(Lib.mk_data s).symm.trans (by rw [e1])
   rw [h1,e1,e2];rfl
  ·refine (Any.strings_Trim_set L (zero_of_info h116).1 (zero_of_info h116).2 s cutset w (by omega) (by omega) hs hcs ha).mono λ e w' ⟨g1,q,g2⟩=>⟨g1,?_⟩
   rw [g2]
   refine ⟨Below.trans (((Below.refl _ _).alloc (Nat.le_refl _) _).alloc (by simp) _) ⟨rfl,rfl,rfl,Nat.le_refl _,λ _ _=>rfl⟩,?_⟩
   exact Nat.le_add_right _ _
end Go.TL

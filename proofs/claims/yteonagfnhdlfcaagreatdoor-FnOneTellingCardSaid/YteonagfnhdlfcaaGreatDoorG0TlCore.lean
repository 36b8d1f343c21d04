import Derived.Calls
import Derived.Orders
import Derived.Laws.World
import Derived.Below
import Derived.Laws.Sem
import Derived.Laws.IdiomCopy
import Derived.Laws.Slices
import Derived.Laws.StructEq
import Derived.Laws.AppendOwn
import Derived.Laws.MakeOwn
import Derived.Laws.Tables
open List renaming length_set → qL, length_append → qM, length_cons → qP, length_nil → qQ, getElem_mem → qa, eq_nil_of_length_eq_zero → qe, getElem_drop → qh, getElem_map → qi, getElem_take → qm, getElem_of_mem → qo, map_cons → qp, flatMap_cons → qq, all_eq_true → qr, mem_append → qw, mem_cons_of_mem → qy, mem_of_mem_drop → qz, mem_of_mem_take → qba, mem_singleton → qbc, length_drop → qbd, mem_append_left → qbe, take_zero → qbi, getElem_append_right → qbj, getElem_append_left → qbk, map_toArray → qbm, getElem_cons_zero → qbo, mem_append_right → qbp, mem_cons_self → qbw, map_nil → qca, append_assoc → qcb, size_toArray → qcd, cons_append → qcg, foldl_cons → qck, all_cons → qcl
open Nat renaming add_assoc → qb, lt_of_lt_of_le → qc, add_mul → qd, mul_le_mul_right → qf, le_refl → qg, lt_or_ge → qj, lt_succ_self → qk, zero_add → ql, eq_zero_or_pos → qu, add_zero → qv, le_trans → qx, mul_comm → qbg, le_add_right → qbl, le_mul_of_pos_right → qbn, zero_le → qbq, div_lt_iff_lt_mul → qbr, one_mul → qbs, mod_lt → qbu, ne_of_lt → qbz, le_succ → qce, mod_eq_of_lt → qch, div_add_mod → qci, mul_add_mod → qcj
open Option renaming map_some → qn, getD_some → qt, map_none → qbf
open Array renaming length_toList → qbb, getElem_toList → qbt, toList_zipIdx → qbv, foldl_toList → qby, size_append → qcc
open Int renaming toNat_of_nonneg → qbh
open Bool renaming false_eq_true → qbx, and_eq_true → qcf
set_option linter.unusedSimpArgs false
set_option linter.unusedVariables false
noncomputable section
namespace Go.TL
open Go
abbrev zkF:=Nat→Nat→Prop
def zpm:Value→Bool
 | .int _ _ | .bool _ | .string _=>true
 | _=>false
inductive Leaf where
 | sc (v:Value)
 | sl (rows:List (List Leaf))
 | raw (v:Value)
 deriving Inhabited
inductive RepL (w:World) (S:zkF):Value→Leaf→Prop
 | sc {v:Value} (h:zpm v=true):RepL w S v (.sc v)
 | raw {v:Value} (h1:v.oneCell'=true) (h2:v.cells=#[v]):RepL w S v (.raw v)
 | nil {a:Option Addr} {cap:Nat}:RepL w S (.slice a 0 cap) (.sl [])
 | sl {b off cap es:Nat} {rows:List (List Leaf)} (cs:Nat→Nat→Value) (hes:∀ r∈rows,r.length=es) (hcap:rows.length≤cap)
   (hS:∀ i j,i < rows.length→j < es→S b (off+(i * es+j))∧w.cell? ⟨b,off+(i * es+j),none⟩=some (cs i j))
   (hr:∀ i j (hi:i < rows.length) (hj:j < (rows[i]).length),RepL w S (cs i j) ((rows[i])[j])) :
   RepL w S (.slice (some ⟨b,off,none⟩) rows.length cap) (.sl rows)
theorem RepL.mono {w w':World} {S S':zkF} {v:Value} {l:Leaf} (h:RepL w S v l) (hs:∀ b k,S b k→S' b k)
  (hc:∀ b k,S b k→w'.cell? ⟨b,k,none⟩=w.cell? ⟨b,k,none⟩):RepL w' S' v l:=by
 induction h with
 | sc h=>exact .sc h
 | raw h1 h2=>exact .raw h1 h2
 | nil=>exact .nil
 | sl cs hes hcap hS hr ih=>exact .sl cs hes hcap (λ i j hi hj=>⟨hs _ _ (hS i j hi hj).1,(hc _ _ (hS i j hi hj).1).trans (hS i j hi hj).2⟩) ih
inductive LV where
 | un
 | lf (t:Bool) (l:Leaf)
 | nl
 | os (id es lo len mc:Nat) (ex:Bool)
 | pb (id off:Nat)
 | pe (id es i off:Nat)
 | ra (t:Bool) (ls:List Leaf)
 | ag (ls:List LV)
 | tu (ls:List LV)
 | fn (f:FuncId) (ls:List LV)
 deriving Inhabited
inductive DSh where
 | sc
 | sl (ss:List DSh)
 deriving Inhabited
inductive Ob where
 | box (ls:List LV)
 | arr (t:Bool) (es:Nat) (rows:List (List Leaf))
 | deep (ss:List DSh) (rows:List (List Leaf))
 | foc (ss:List DSh) (rows:List (List Leaf)) (i:Nat) (ks:List LV)
 deriving Inhabited
def zpq:Ob→Bool
 | .deep .. | .foc ..=>true
 | _=>false
structure Loc where
 b:Nat
 base:Nat
 n:Nat
 more:Nat→Prop
def inR (L:Loc) (b _k:Nat):Prop:=(b=L.b∧0 < L.n)∨L.more b
abbrev Loc.flat (b base n:Nat):Loc:=⟨b,base,n,λ _=>False⟩
theorem zlE {b0 o n b k:Nat} (h:inR (Loc.flat b0 o n) b k):b=b0∧0 < n:=h.elim id λ h=>h.elim
def Loc.same (L L':Loc):Prop:=L'.b=L.b∧L'.base=L.base∧L'.n=L.n
theorem Loc.same.refl (L:Loc):L.same L:=⟨rfl,rfl,rfl⟩
theorem Loc.same.trans {A B C:Loc} (h:A.same B) (k:B.same C):A.same C:=⟨k.1.trans h.1,k.2.1.trans h.2.1,k.2.2.trans h.2.2⟩
inductive RepD (w:World):(Nat→Prop)→DSh→Value→Leaf→Prop
 | sc {B:Nat→Prop} {v:Value} (h:zpm v=true):RepD w B .sc v (.sc v)
 | sl {B:Nat→Prop} {ss:List DSh} {rows:List (List Leaf)} {a:Option Addr} {cap b base n:Nat} (cs:Nat→Nat→Value) (B':Nat→Nat→Nat→Prop)
   (hcap:rows.length≤cap∧cap≤9223372036854775807) (ha:cap=0∨(a=some ⟨b,base,none⟩∧B b)) (hn:cap * ss.length≤n) (hn0:cap=0→n=0)
   (hl:∀ r∈rows,r.length=ss.length) (hc:∀ j,j < n→∃ v,w.cell? ⟨b,base+j,none⟩=some v)
   (hv:∀ i j,i < rows.length→j < ss.length→w.cell? ⟨b,base+(i * ss.length+j),none⟩=some (cs i j))
   (hB:∀ i j x,B' i j x→B x∧x≠b) (hd:∀ i j i' j' x,B' i j x→B' i' j' x→i=i'∧j=j')
   (hr:∀ i j (hi:i < rows.length) (hj:j < (rows[i]).length) (hj':j < ss.length),RepD w (B' i j) (ss[j]) (cs i j) ((rows[i])[j])) :
   RepD w B (.sl ss) (.slice a rows.length cap) (.sl rows)
structure Ctx where
 F:zkF
 G:zkF
 loc:Nat→Loc
 nx:Nat
def Ctx.fs (c:Ctx) (t:Bool):zkF:=λ b k=>c.G b k∨(t=true∧c.F b k)
inductive Cv (w:World) (c:Ctx):LV→Value→Prop
 | un (v:Value):Cv w c .un v
 | lf {t:Bool} {l:Leaf} {v:Value} (h:RepL w (c.fs t) v l):Cv w c (.lf t l) v
 | nl (a:Option Addr):Cv w c .nl (.slice a 0 0)
 | os {id es lo len mc cap:Nat} {ex:Bool} {a:Option Addr} (hid:id < c.nx) (hl:len≤cap) (hm:mc≤cap∧cap≤9223372036854775807) (hx:ex=true→cap=mc)
   (ha:cap=0∨a=some ⟨(c.loc id).b,(c.loc id).base+lo * es,none⟩) (hn:lo * es+cap * es≤(c.loc id).n):Cv w c (.os id es lo len mc ex) (.slice a len cap)
 | pb {id off:Nat} (hid:id < c.nx):Cv w c (.pb id off) (.pointer (some ⟨(c.loc id).b,(c.loc id).base+off,none⟩))
 | pe {id es i off:Nat} (hid:id < c.nx):Cv w c (.pe id es i off) (.pointer (some ⟨(c.loc id).b,(c.loc id).base+(i * es+off),none⟩))
 | ra {t:Bool} {ls:List Leaf} {b o:Nat} (cs:Nat→Value)
   (hS:∀ j,j < ls.length→c.fs t b (o+j)∧w.cell? ⟨b,o+j,none⟩=some (cs j)) (hr:∀ j (hj:j < ls.length),RepL w (c.fs t) (cs j) (ls[j])) :
   Cv w c (.ra t ls) (.pointer (some ⟨b,o,none⟩))
 | ag {ls:List LV} {vs:Array Value} (cs:Nat→Value) (hn:vs.size=ls.length) (hv:∀ j,j < ls.length→vs[j]?=some (cs j))
   (h:∀ j (hj:j < ls.length),Cv w c (ls[j]) (cs j)):Cv w c (.ag ls) (.agg vs)
 | tu {ls:List LV} {vs:Array Value} (cs:Nat→Value) (hn:vs.size=ls.length) (hv:∀ j,j < ls.length→vs[j]?=some (cs j))
   (h:∀ j (hj:j < ls.length),Cv w c (ls[j]) (cs j)):Cv w c (.tu ls) (.tuple vs)
 | fn {f:FuncId} {ls:List LV} {vs:Array Value} (cs:Nat→Value) (hn:vs.size=ls.length) (hv:∀ j,j < ls.length→vs[j]?=some (cs j))
   (h:∀ j (hj:j < ls.length),Cv w c (ls[j]) (cs j)):Cv w c (.fn f ls) (.func (.func f) #[] vs)
structure Ctx.Le (c c':Ctx):Prop where
 F:c'.F=c.F
 G:∀ b k,c.G b k→c'.G b k
 nx:c.nx≤c'.nx
 loc:∀ id,id < c.nx→(c.loc id).same (c'.loc id)
theorem Ctx.Le.refl (c:Ctx):c.Le c:=⟨rfl,λ _ _ h=>h,qg _,λ _ _=>Loc.same.refl _⟩
theorem Ctx.Le.trans {a b c:Ctx} (h:a.Le b) (k:b.Le c):a.Le c :=
 ⟨k.F.trans h.F,λ _ _ x=>k.G _ _ (h.G _ _ x),qx h.nx k.nx,λ id hid=>(h.loc id hid).trans (k.loc id (qc hid h.nx))⟩
theorem Ctx.Le.fs {c c':Ctx} (h:c.Le c') (t:Bool) (b k:Nat) (x:c.fs t b k):c'.fs t b k:=by
 rcases x with x | ⟨ht,x⟩
 ·exact .inl (h.G _ _ x)
 ·exact .inr ⟨ht,h.F ▸ x⟩
def Same (c:Ctx) (w w':World):Prop:=∀ b k,c.G b k∨c.F b k→w'.cell? ⟨b,k,none⟩=w.cell? ⟨b,k,none⟩
theorem Same.refl (c:Ctx) (w:World):Same c w w:=λ _ _ _=>rfl
theorem Same.fs {c:Ctx} {w w':World} (h:Same c w w') (t:Bool) (b k:Nat) (x:c.fs t b k):w'.cell? ⟨b,k,none⟩=w.cell? ⟨b,k,none⟩ :=
 h b k (x.imp id (·.2))
theorem Cv.mono {w w':World} {c c':Ctx} {lv:LV} {v:Value} (h:Cv w c lv v) (hc:c.Le c') (hs:Same c w w'):Cv w' c' lv v:=by
 induction h with
 | un v=>exact .un v
 | lf h=>exact .lf (h.mono (hc.fs _) (hs.fs _))
 | nl a=>exact .nl a
 | os hid hl hm hx ha hn=>exact .os (qc hid hc.nx) hl hm hx (by rw [(hc.loc _ hid).1,(hc.loc _ hid).2.1];exact ha) (by rw [(hc.loc _ hid).2.2];exact hn)
 | pb hid=>rw [← (hc.loc _ hid).1,← (hc.loc _ hid).2.1];exact .pb (qc hid hc.nx)
 | pe hid=>rw [← (hc.loc _ hid).1,← (hc.loc _ hid).2.1];exact .pe (qc hid hc.nx)
 | ra cs hS hr=>exact .ra cs (λ j hj=>⟨hc.fs _ _ _ (hS j hj).1,(hs.fs _ _ _ (hS j hj).1).trans (hS j hj).2⟩) (λ j hj=>(hr j hj).mono (hc.fs _) (hs.fs _))
 | ag cs hn hv h ih=>exact .ag cs hn hv ih
 | tu cs hn hv h ih=>exact .tu cs hn hv ih
 | fn cs hn hv h ih=>exact .fn cs hn hv ih
structure Keep (D:zkF) (w w':World):Prop where
 os:w'.os=w.os
 tape:w'.tape=w.tape
 output:w'.output=w.output
 size:w.heap.size≤w'.heap.size
 cell:∀ b k,b < w.heap.size→¬ D b k→w'.cell? ⟨b,k,none⟩=w.cell? ⟨b,k,none⟩
 frz:∀ b k,b < w.heap.size→w'.frozen? ⟨b,k,none⟩=w.frozen? ⟨b,k,none⟩
 blk:∀ b,b < w.heap.size→(∀ k,¬ D b k)→w'.heap[b]?=w.heap[b]?
 dr:w.drawn≤w'.drawn
theorem Keep.refl (D:zkF) (w:World):Keep D w w:=⟨rfl,rfl,rfl,qg _,λ _ _ _ _=>rfl,λ _ _ _=>rfl,λ _ _ _=>rfl,qg _⟩
theorem Keep.trans {D E:zkF} {a b c:World} (h:Keep D a b) (k:Keep E b c) (hE:∀ x y,x < a.heap.size→E x y→D x y):Keep D a c where
 os:=k.os.trans h.os
 tape:=k.tape.trans h.tape
 output:=k.output.trans h.output
 size:=qx h.size k.size
 cell x y hx hd:=(k.cell x y (qc hx h.size) λ e=>hd (hE x y hx e)).trans (h.cell x y hx hd)
 frz x y hx:=(k.frz x y (qc hx h.size)).trans (h.frz x y hx)
 blk x hx hd:=(k.blk x (qc hx h.size) λ y e=>hd y (hE x y hx e)).trans (h.blk x hx hd)
 dr:=qx h.dr k.dr
theorem Keep.mono {D E:zkF} {w w':World} (h:Keep D w w') (hE:∀ x y,x < w.heap.size→D x y→E x y):Keep E w w' :=
 (Keep.refl E w).trans h hE
theorem Keep.below {w w':World} (h:Keep (λ _ _=>False) w w'):Go.RowKit.Below w.heap.size w w' :=
 ⟨h.os,h.tape,h.output,h.size,λ k hk=>h.blk k hk λ _=>id⟩
def Holds (w:World) (c:Ctx) (L:Loc):Ob→Prop
 | .box ls=>ls.length≤L.n∧(∀ j,j < L.n→∃ v,w.cell? ⟨L.b,L.base+j,none⟩=some v∧w.frozen? ⟨L.b,L.base+j,none⟩=false) ∧
   ∀ j (hj:j < ls.length) v,w.cell? ⟨L.b,L.base+j,none⟩=some v→Cv w c (ls[j]) v
 | .arr t es rows=>rows.length * es≤L.n∧(∀ r∈rows,r.length=es)∧(∀ j,j < L.n→∃ v,w.cell? ⟨L.b,L.base+j,none⟩=some v∧w.frozen? ⟨L.b,L.base+j,none⟩=false) ∧
   ∀ i j (hi:i < rows.length) (hj:j < (rows[i]).length) v,w.cell? ⟨L.b,L.base+(i * es+j),none⟩=some v→RepL w (c.fs t) v ((rows[i])[j])
 | .deep ss rows=>rows.length * ss.length≤L.n∧(∀ r∈rows,r.length=ss.length)∧(∀ j,j < L.n→∃ v,w.cell? ⟨L.b,L.base+j,none⟩=some v∧w.frozen? ⟨L.b,L.base+j,none⟩=false) ∧
   ∃ B:Nat→Nat→Nat→Prop,(∀ i j x,B i j x→L.more x∧x≠L.b)∧(∀ i j i' j' x,B i j x→B i' j' x→i=i'∧j=j') ∧
   ∀ i j (hi:i < rows.length) (hj:j < (rows[i]).length) (hj':j < ss.length) v,w.cell? ⟨L.b,L.base+(i * ss.length+j),none⟩=some v→RepD w (B i j) (ss[j]) v ((rows[i])[j])
 | .foc ss rows p ks=>rows.length * ss.length≤L.n∧(∀ r∈rows,r.length=ss.length)∧(∀ j,j < L.n→∃ v,w.cell? ⟨L.b,L.base+j,none⟩=some v∧w.frozen? ⟨L.b,L.base+j,none⟩=false) ∧
   (∃ B:Nat→Nat→Nat→Prop,(∀ i j x,B i j x→L.more x∧x≠L.b)∧(∀ i j i' j' x,B i j x→B i' j' x→i=i'∧j=j') ∧
   ∀ i j (hi:i < rows.length) (hj:j < (rows[i]).length) (hj':j < ss.length) v,i≠p→w.cell? ⟨L.b,L.base+(i * ss.length+j),none⟩=some v→RepD w (B i j) (ss[j]) v ((rows[i])[j])) ∧
   p < rows.length∧ks.length=ss.length∧∀ j (hj:j < ks.length) v,w.cell? ⟨L.b,L.base+(p * ss.length+j),none⟩=some v→Cv w c (ks[j]) v
theorem RepD.mono {w w':World} {B:Nat→Prop} {s:DSh} {v:Value} {l:Leaf} (h:RepD w B s v l):∀ {B2:Nat→Prop},(∀ x,B x→B2 x) →
  (∀ b k,B b→w'.cell? ⟨b,k,none⟩=w.cell? ⟨b,k,none⟩)→RepD w' B2 s v l:=by
 induction h with
 | sc h=>intro B2 _ _;exact .sc h
 | @sl B ss rows a cap b base n cs B' hcap ha hn hn0 hl hc hv hB hd hr ih =>
  intro B2 hs hw
  rcases ha with rfl | ⟨rfl,hb⟩
  ·have h0:rows.length=0:=by omega
   have hn':=hn0 rfl
   exact .sl (b:=b) (base:=base) (n:=n) cs (λ _ _ _=>False) hcap (.inl rfl) hn hn0 hl (λ j hj=>by omega) (λ i j hi=>by omega) (λ _ _ _ h=>h.elim) (λ _ _ _ _ _ h=>h.elim) (λ i j hi=>by omega)
  ·refine .sl cs B' hcap (.inr ⟨rfl,hs _ hb⟩) hn hn0 hl (λ j hj=>?_) (λ i j hi hj=>(hw _ _ hb).trans (hv i j hi hj)) (λ i j x h=>⟨hs _ (hB i j x h).1,(hB i j x h).2⟩) hd (λ i j hi hj hj'=>ih i j hi hj hj' (λ _ h=>h) λ x k hx=>hw x k (hB i j x hx).1)
   obtain ⟨u,hu⟩:=hc j hj
   exact ⟨u,(hw _ _ hb).trans hu⟩
theorem RepD.rep {w:World} {B:Nat→Prop} {s:DSh} {v:Value} {l:Leaf} (h:RepD w B s v l):∀ {S:zkF},(∀ b k,B b→S b k)→RepL w S v l:=by
 induction h with
 | sc h=>intro S _;exact .sc h
 | @sl B ss rows a cap b base n cs B' hcap ha hn hn0 hl hc hv hB hd hr ih =>
  intro S hs
  rcases ha with rfl | ⟨rfl,hb⟩
  ·have h0:rows=[]:=qe (by omega)
   subst h0
   exact .nil
  ·exact .sl cs hl hcap.1 (λ i j hi hj=>⟨hs _ _ hb,hv i j hi hj⟩) λ i j hi hj=>ih i j hi hj (by rw [← hl _ (qa hi)];exact hj) λ x k hx=>hs x k (hB i j x hx).1
theorem Holds.there {w:World} {c:Ctx} {L:Loc} {o:Ob} (h:Holds w c L o) (j:Nat) (hj:j < L.n) :
  ∃ v,w.cell? ⟨L.b,L.base+j,none⟩=some v∧w.frozen? ⟨L.b,L.base+j,none⟩=false:=by
 cases o with
 | box ls=>exact h.2.1 j hj
 | arr t es rows=>exact h.2.2.1 j hj
 | deep ss rows=>exact h.2.2.1 j hj
 | foc ss rows p ks=>exact h.2.2.1 j hj
theorem zk1 {n es i j:Nat} (hi:i < n) (hj:j < es):i * es+j < n * es:=by
 have h1:(i+1) * es≤n * es:=qf es hi
 rw [qd] at h1
 omega
theorem Holds.mono {w w':World} {c c':Ctx} {L:Loc} {o:Ob} (h:Holds w c L o) (hc:c.Le c') (hs:Same c w w')
  (hL:∀ b k,inR L b k→w'.cell? ⟨b,k,none⟩=w.cell? ⟨b,k,none⟩∧w'.frozen? ⟨b,k,none⟩=w.frozen? ⟨b,k,none⟩):Holds w' c' L o:=by
 have hin:∀ j,j < L.n→inR L L.b (L.base+j):=λ j hj=>.inl ⟨rfl,by omega⟩
 have hthere:(∀ j,j < L.n→∃ v,w.cell? ⟨L.b,L.base+j,none⟩=some v∧w.frozen? ⟨L.b,L.base+j,none⟩=false)→∀ j,j < L.n→∃ v,w'.cell? ⟨L.b,L.base+j,none⟩=some v∧w'.frozen? ⟨L.b,L.base+j,none⟩=false:=λ h2 j hj=>by
  obtain ⟨v,a,b⟩:=h2 j hj
  exact ⟨v,(hL _ _ (hin j hj)).1.trans a,(hL _ _ (hin j hj)).2.trans b⟩
 cases o with
 | box ls =>
  obtain ⟨h1,h2,h3⟩:=h
  refine ⟨h1,λ j hj=>?_,λ j hj v hv=>?_⟩
  ·obtain ⟨v,a,b⟩:=h2 j hj
   exact ⟨v,(hL _ _ (hin j hj)).1.trans a,(hL _ _ (hin j hj)).2.trans b⟩
  ·rw [(hL _ _ (hin j (by omega))).1] at hv
   exact (h3 j hj v hv).mono hc hs
 | arr t es rows =>
  obtain ⟨h1,h0,h2,h3⟩:=h
  refine ⟨h1,h0,λ j hj=>?_,λ i j hi hj v hv=>?_⟩
  ·obtain ⟨v,a,b⟩:=h2 j hj
   exact ⟨v,(hL _ _ (hin j hj)).1.trans a,(hL _ _ (hin j hj)).2.trans b⟩
  ·have hj':j < es:=by rw [← h0 (rows[i]) (qa hi)];exact hj
   have:=zk1 hi hj'
   rw [(hL _ _ (hin _ (by omega))).1] at hv
   exact (h3 i j hi hj v hv).mono (hc.fs _) (hs.fs _)
 | deep ss rows =>
  obtain ⟨h1,h0,h2,B,hB,hd,h3⟩:=h
  refine ⟨h1,h0,hthere h2,B,hB,hd,λ i j hi hj hj' v hv=>?_⟩
  have:=zk1 hi hj'
  rw [(hL _ _ (hin _ (by omega))).1] at hv
  exact (h3 i j hi hj hj' v hv).mono (λ _ h=>h) λ b k hb=>(hL b k (.inr (hB i j b hb).1)).1
 | foc ss rows p ks =>
  obtain ⟨h1,h0,h2,⟨B,hB,hd,h3⟩,hp,hk,h4⟩:=h
  refine ⟨h1,h0,hthere h2,⟨B,hB,hd,λ i j hi hj hj' v hip hv=>?_⟩,hp,hk,λ j hj v hv=>?_⟩
  ·have:=zk1 hi hj'
   rw [(hL _ _ (hin _ (by omega))).1] at hv
   exact (h3 i j hi hj hj' v hip hv).mono (λ _ h=>h) λ b k hb=>(hL b k (.inr (hB i j b hb).1)).1
  ·have:=zk1 (es:=ss.length) (j:=j) hp (by omega)
   rw [(hL _ _ (hin _ (by omega))).1] at hv
   exact (h4 j hj v hv).mono hc hs
abbrev zkO:=Nat→Option (Bool×Ob)
structure Fr where
 w:zkF
 e:Nat→Nat→Option Value
def frm (S:zkF):Fr:=⟨S,λ _ _=>none⟩
structure Sit (w0:World) (W0:Fr) (c:Ctx) (H:zkO) (w:World):Prop where
 keep:Keep W0.w w0 w
 own:∀ id o,H id=some o→id < c.nx∧Holds w c (c.loc id) o.2
 dis:∀ i j oi oj,H i=some oi→H j=some oj→i≠j→∀ b k k',inR (c.loc i) b k→¬ inR (c.loc j) b k'
 sep:∀ id o,H id=some o→∀ b k,inR (c.loc id) b k→(∀ k',¬ c.F b k')∧(∀ k',¬ c.G b k')∧((o.1=false∧W0.w b k)∨w0.heap.size≤b)
 old:∀ b k,c.F b k→b < w0.heap.size∧¬ W0.w b k
 new:∀ b k,c.G b k→w0.heap.size≤b∧b < w.heap.size
 res:∀ b k v,W0.e b k=some v→w0.heap.size≤b∧(∀ k',¬ c.G b k')∧w.cell? ⟨b,k,none⟩=some v∧(∀ k',w.frozen? ⟨b,k',none⟩=false)∧∀ id o,H id=some o→∀ k',¬ inR (c.loc id) b k'
 pl:∀ id o,H id=some o→∀ b k,inR (c.loc id) b k→∀ k',w.frozen? ⟨b,k',none⟩=false
 mo:∀ id o,H id=some o→∀ x,(c.loc id).more x→x < w.heap.size∧zpq o.2=true
theorem zlz {w:World} {b k:Nat} {v:Value} (h:w.cell? ⟨b,k,none⟩=some v):b < w.heap.size:=by
 unfold World.cell? at h
 rcases qj b w.heap.size with h1 | h1
 ·exact h1
 ·simp [Array.getElem?_eq_none h1] at h
theorem Sit.lt {w0 w:World} {W0:Fr} {c:Ctx} {H:zkO} (s:Sit w0 W0 c H w) {id:Nat} {o:Bool×Ob} (h:H id=some o) {b k:Nat} (hr:inR (c.loc id) b k):b < w.heap.size:=by
 rcases hr with ⟨rfl,h1⟩ | hr
 ·obtain ⟨v,hv,_⟩:=(s.own id o h).2.there 0 h1
  exact zlz hv
 ·exact (s.mo id o h b hr).1
theorem Sit.same {w0 w w':World} {W0:Fr} {D:zkF} {c:Ctx} {H:zkO} (s:Sit w0 W0 c H w) (k:Keep D w w')
  (hD:∀ b j,b < w.heap.size→D b j→∃ id o,H id=some o∧inR (c.loc id) b j):Same c w w':=by
 intro b j hb
 have hlt:b < w.heap.size:=by
  rcases hb with hb | hb
  ·exact (s.new b j hb).2
  ·exact qc (s.old b j hb).1 s.keep.size
 refine k.cell b j hlt λ d=>?_
 obtain ⟨id,o,ho,hr⟩:=hD b j hlt d
 have:=s.sep id o ho b j hr
 rcases hb with hb | hb
 ·exact this.2.1 _ hb
 ·exact this.1 _ hb
theorem Sit.keeps {w0 w w':World} {W0:Fr} {D:zkF} {c:Ctx} {H:zkO} (s:Sit w0 W0 c H w) (k:Keep D w w')
  (hD:∀ b j,b < w.heap.size→D b j→∃ id o,H id=some o∧inR (c.loc id) b j):Keep W0.w w0 w':=by
 refine s.keep.trans k λ b j hb d=>?_
 obtain ⟨id,o,ho,hr⟩:=hD b j (qc hb s.keep.size) d
 rcases (s.sep id o ho b j hr).2.2 with h | h
 ·exact h.2
 ·omega
theorem Sit.aside {w0 w w':World} {W0:Fr} {D:zkF} {c:Ctx} {H:zkO} (s:Sit w0 W0 c H w) (k:Keep D w w')
  (hD:∀ b j,b < w.heap.size→D b j→∃ id o,H id=some o∧inR (c.loc id) b j) {b j:Nat} {v:Value} (he:W0.e b j=some v) :
  w'.cell? ⟨b,j,none⟩=some v∧∀ k',w'.frozen? ⟨b,k',none⟩=false:=by
 obtain ⟨r1,r2,r3,r4,r5⟩:=s.res b j v he
 have hlt:=zlz r3
 have hnd:¬ D b j:=λ d=>by
  obtain ⟨id,o,ho,hr⟩:=hD b j hlt d
  exact r5 id o ho _ hr
 exact ⟨(k.cell b j hlt hnd).trans r3,λ k'=>(k.frz b k' hlt).trans (r4 k')⟩
def upd (H:zkO) (id:Nat) (x:Option (Bool×Ob)):zkO:=λ i=>if i=id then x else H i
theorem zlf (H:zkO) (id:Nat) (x:Option (Bool×Ob)):upd H id x id=x:=by simp [upd]
theorem zle (H:zkO) {id i:Nat} (x:Option (Bool×Ob)) (h:i≠id):upd H id x i=H i:=by simp [upd,h]
theorem Sit.upd {w0 w w':World} {W0:Fr} {D:zkF} {c:Ctx} {H:zkO} (s:Sit w0 W0 c H w) (k:Keep D w w') {id:Nat} {fr:Bool} {o o':Ob} (ho:H id=some (fr,o))
  (hD:∀ b j,b < w.heap.size→D b j→inR (c.loc id) b j) (hh:Holds w' c (c.loc id) o') (hdp:zpq o=true→zpq o'=true:=by intro h;first | exact h | cases h):Sit w0 W0 c (upd H id (some (fr,o'))) w'∧Same c w w':=by
 have hD':∀ b j,b < w.heap.size→D b j→∃ i o,H i=some o∧inR (c.loc i) b j:=λ b j hb d=>⟨id,_,ho,hD b j hb d⟩
 have hs:=s.same k hD'
 have hold:∀ i oi,TL.upd H id (some (fr,o')) i=some oi→∃ oi',H i=some oi'∧oi'.1=oi.1∧(zpq oi'.2=true→zpq oi.2=true):=by
  intro i oi hi
  by_cases e:i=id
  ·subst e;rw [zlf] at hi;cases hi;exact ⟨_,ho,rfl,hdp⟩
  ·rw [zle _ _ e] at hi;exact ⟨oi,hi,rfl,λ h=>h⟩
 refine ⟨⟨s.keeps k hD',λ i oi hi=>?_,λ i j oi oj hi hj hij=>?_,λ i oi hi b j hb=>?_,s.old,λ b j hg=>⟨(s.new b j hg).1,qc (s.new b j hg).2 k.size⟩,
  λ b j v he=>⟨(s.res b j v he).1,(s.res b j v he).2.1,(s.aside k hD' he).1,(s.aside k hD' he).2,λ i oi hi=>let ⟨oi',h',_,_⟩:=hold i oi hi;(s.res b j v he).2.2.2.2 i oi' h'⟩,
  λ i oi hi b j hb k'=>let ⟨oi',h',_,_⟩:=hold i oi hi;(k.frz b k' (s.lt h' hb)).trans (s.pl i oi' h' b j hb k'),
  λ i oi hi x hx=>let ⟨oi',h',_,h2⟩:=hold i oi hi;⟨qc (s.mo i oi' h' x hx).1 k.size,h2 (s.mo i oi' h' x hx).2⟩⟩,hs⟩
 ·by_cases e:i=id
  ·subst e;rw [zlf] at hi;cases hi;exact ⟨(s.own _ _ ho).1,hh⟩
  ·rw [zle _ _ e] at hi
   refine ⟨(s.own i oi hi).1,(s.own i oi hi).2.mono (.refl c) hs λ b j hb=>?_⟩
   have hlt:=s.lt hi hb
   have hnd:¬ D b j:=λ d=>s.dis i id oi _ hi ho e b j j hb (hD b j hlt d)
   exact ⟨k.cell b j hlt hnd,k.frz b j hlt⟩
 ·obtain ⟨a,ha,_⟩:=hold i oi hi
  obtain ⟨a',ha',_⟩:=hold j oj hj
  exact s.dis i j _ _ ha ha' hij
 ·obtain ⟨a,ha,e,_⟩:=hold i oi hi
  rw [← e]
  exact s.sep i a ha b j hb
theorem Sit.idle {w0 w w':World} {W0:Fr} {c:Ctx} {H:zkO} (s:Sit w0 W0 c H w) (k:Keep (λ _ _=>False) w w'):Sit w0 W0 c H w'∧Same c w w':=by
 have hs:=s.same k λ _ _ _ h=>h.elim
 refine ⟨⟨s.keeps k λ _ _ _ h=>h.elim,λ i oi hi=>⟨(s.own i oi hi).1,(s.own i oi hi).2.mono (.refl c) hs λ b j hb=>?_⟩,s.dis,s.sep,s.old,λ b j hg=>⟨(s.new b j hg).1,qc (s.new b j hg).2 k.size⟩,
  λ b j v he=>⟨(s.res b j v he).1,(s.res b j v he).2.1,(s.aside k (λ _ _ _ h=>h.elim) he).1,(s.aside k (λ _ _ _ h=>h.elim) he).2,(s.res b j v he).2.2.2.2⟩,
  λ i oi hi b j hb k'=>(k.frz b k' (s.lt hi hb)).trans (s.pl i oi hi b j hb k'),λ i oi hi x hx=>⟨qc (s.mo i oi hi x hx).1 k.size,(s.mo i oi hi x hx).2⟩⟩,hs⟩
 have hlt:=s.lt hi hb
 exact ⟨k.cell b j hlt id,k.frz b j hlt⟩
theorem Sit.less {w0 w:World} {W0:Fr} {c:Ctx} {H H':zkO} (s:Sit w0 W0 c H w) (h:∀ i o,H' i=some o→H i=some o):Sit w0 W0 c H' w :=
 ⟨s.keep,λ i o hi=>s.own i o (h i o hi),λ i j oi oj hi hj=>s.dis i j oi oj (h _ _ hi) (h _ _ hj),λ i o hi=>s.sep i o (h _ _ hi),s.old,s.new,
  λ b k v he=>⟨(s.res b k v he).1,(s.res b k v he).2.1,(s.res b k v he).2.2.1,(s.res b k v he).2.2.2.1,λ i o hi=>(s.res b k v he).2.2.2.2 i o (h _ _ hi)⟩,λ i o hi=>s.pl i o (h _ _ hi),λ i o hi=>s.mo i o (h _ _ hi)⟩
def Ctx.push (c:Ctx) (L:Loc):Ctx:={ c with loc:=λ i=>if i=c.nx then L else c.loc i,nx:=c.nx+1 }
theorem Ctx.le_push (c:Ctx) (L:Loc):c.Le (c.push L) :=
 ⟨rfl,λ _ _ h=>h,qce _,λ id hid=>by simp [Ctx.push,qbz hid,Loc.same]⟩
theorem Ctx.push_lt (c:Ctx) (L:Loc) {id:Nat} (h:id < c.nx):(c.push L).loc id=c.loc id:=by simp [Ctx.push,qbz h]
theorem Ctx.push_loc (c:Ctx) (L:Loc):(c.push L).loc c.nx=L:=by simp [Ctx.push]
theorem Sit.push {w0 w w':World} {W0:Fr} {D:zkF} {c:Ctx} {H H':zkO} (s:Sit w0 W0 c H w) (k:Keep D w w') (L:Loc) {fr:Bool} {o:Ob}
  (hless:∀ i o,H' i=some o→H i=some o) (gone:Nat→Prop) (hgone:∀ i,gone i→H' i=none)
  (hD:∀ b j,b < w.heap.size→D b j→∃ i o,gone i∧H i=some o∧inR (c.loc i) b j)
  (hL:∀ b j,inR L b j→(w.heap.size≤b∧∀ k',w'.frozen? ⟨b,k',none⟩=false)∨∃ i o,gone i∧H i=some o∧inR (c.loc i) b j∧(o.1=false→fr=false))
  (hh:Holds w' (c.push L) L o) (hmo:∀ x,L.more x→x < w'.heap.size∧zpq o=true):Sit w0 W0 (c.push L) (TL.upd H' c.nx (some (fr,o))) w'∧Same c w w':=by
 have hD':∀ b j,b < w.heap.size→D b j→∃ i o,H i=some o∧inR (c.loc i) b j:=λ b j hb d=>let ⟨i,o,_,h⟩:=hD b j hb d;⟨i,o,h⟩
 have hs:=s.same k hD'
 have hlt:∀ i oi,H' i=some oi→i < c.nx:=λ i oi hi=>(s.own i oi (hless _ _ hi)).1
 have hnew:∀ i oi,H' i=some oi→∀ b j j',inR (c.loc i) b j→¬ inR L b j':=by
  intro i oi hi b j j' hb hl
  rcases hL b j' hl with ⟨h,_⟩ | ⟨i',o',hg,ho',hr,_⟩
  ·have:=s.lt (hless _ _ hi) hb;omega
  ·have hne:i≠i':=by intro e;subst e;rw [hgone i hg] at hi;cases hi
   exact s.dis i i' _ _ (hless _ _ hi) ho' hne b j j' hb hr
 refine ⟨⟨s.keeps k hD',λ i oi hi=>?_,λ i j oi oj hi hj hij b l l' hb=>?_,λ i oi hi b j hb=>?_,s.old,λ b j hg=>⟨(s.new b j hg).1,qc (s.new b j hg).2 k.size⟩,
  λ b j v he=>⟨(s.res b j v he).1,(s.res b j v he).2.1,(s.aside k hD' he).1,(s.aside k hD' he).2,λ i oi hi=>?_⟩,λ i oi hi b j hb k'=>?_,λ i oi hi x hx=>?_⟩,hs⟩
 ·by_cases e:i=c.nx
  ·subst e;rw [zlf] at hi;cases hi;exact ⟨qk _,by rw [Ctx.push_loc];exact hh⟩
  ·rw [zle _ _ e] at hi
   have h1:=hlt i oi hi
   refine ⟨qc h1 (qce _),?_⟩
   rw [c.push_lt L h1]
   refine (s.own i oi (hless _ _ hi)).2.mono (c.le_push L) hs λ b j hb=>?_
   have hb':=s.lt (hless _ _ hi) hb
   have hnd:¬ D b j:=λ d=>by
    obtain ⟨i',o',hg,ho',hr⟩:=hD b j hb' d
    have hne:i≠i':=by intro e;subst e;rw [hgone i hg] at hi;cases hi
    exact s.dis i i' _ _ (hless _ _ hi) ho' hne b j j hb hr
   exact ⟨k.cell b j hb' hnd,k.frz b j hb'⟩
 ·by_cases ei:i=c.nx
  ·subst ei
   rw [Ctx.push_loc] at hb
   rw [zle _ _ (Ne.symm hij)] at hj
   rw [c.push_lt L (hlt _ _ hj)]
   exact λ hr=>hnew j oj hj b l' l hr hb
  ·rw [zle _ _ ei] at hi
   rw [c.push_lt L (hlt _ _ hi)] at hb
   by_cases ej:j=c.nx
   ·subst ej;rw [Ctx.push_loc];exact hnew i oi hi b l l' hb
   ·rw [zle _ _ ej] at hj
    rw [c.push_lt L (hlt _ _ hj)]
    exact s.dis i j _ _ (hless _ _ hi) (hless _ _ hj) hij b l l' hb
 ·by_cases e:i=c.nx
  ·subst e
   rw [zlf] at hi
   cases hi
   rw [Ctx.push_loc] at hb
   rcases hL b j hb with ⟨h,_⟩ | ⟨i',o',hg,ho',hr,hfr⟩
   ·refine ⟨λ k' hf=>?_,λ k' hg=>?_,.inr (qx s.keep.size h)⟩
    ·have:=(s.old b k' hf).1;have:=s.keep.size;omega
    ·have:=(s.new b k' hg).2;omega
   ·have:=s.sep i' o' ho' b j hr
    exact ⟨this.1,this.2.1,this.2.2.imp (λ h=>⟨hfr h.1,h.2⟩) id⟩
  ·rw [zle _ _ e] at hi
   rw [c.push_lt L (hlt _ _ hi)] at hb
   exact s.sep i oi (hless _ _ hi) b j hb
 ·obtain ⟨r1,r2,r3,r4,r5⟩:=s.res b j v he
  by_cases e:i=c.nx
  ·subst e
   rw [Ctx.push_loc]
   intro k2 hb
   rcases hL b k2 hb with ⟨h,_⟩ | ⟨i',o',hg,ho',hr,_⟩
   ·have:=zlz r3;omega
   ·exact r5 i' o' ho' k2 hr
  ·rw [zle _ _ e] at hi
   rw [c.push_lt L (hlt _ _ hi)]
   exact r5 i oi (hless _ _ hi)
 ·by_cases e:i=c.nx
  ·subst e
   rw [Ctx.push_loc] at hb
   rcases hL b j hb with ⟨_,h⟩ | ⟨i',o',hg,ho',hr,_⟩
   ·exact h k'
   ·exact (k.frz b k' (s.lt ho' hr)).trans (s.pl i' o' ho' b j hr k')
  ·rw [zle _ _ e] at hi
   rw [c.push_lt L (hlt _ _ hi)] at hb
   exact (k.frz b k' (s.lt (hless _ _ hi) hb)).trans (s.pl i oi (hless _ _ hi) b j hb k')
 ·by_cases e:i=c.nx
  ·subst e;rw [Ctx.push_loc] at hx;rw [zlf] at hi;cases hi;exact hmo x hx
  ·rw [zle _ _ e] at hi
   rw [c.push_lt L (hlt _ _ hi)] at hx
   exact ⟨qc (s.mo i oi (hless _ _ hi) x hx).1 k.size,(s.mo i oi (hless _ _ hi) x hx).2⟩
def Ctx.freeze (c:Ctx) (id:Nat):Ctx:={ c with G:=λ b k=>c.G b k∨inR (c.loc id) b k }
theorem Ctx.le_freeze (c:Ctx) (id:Nat):c.Le (c.freeze id):=⟨rfl,λ _ _ h=>.inl h,qg _,λ _ _=>Loc.same.refl _⟩
theorem Sit.freeze {w0 w:World} {W0:Fr} {c:Ctx} {H:zkO} (s:Sit w0 W0 c H w) {id:Nat} {o:Ob} (ho:H id=some (true,o)) :
  Sit w0 W0 (c.freeze id) (TL.upd H id none) w:=by
 have hne:∀ i oi,TL.upd H id none i=some oi→i≠id∧H i=some oi:=by
  intro i oi hi
  by_cases e:i=id
  ·subst e;rw [zlf] at hi;cases hi
  ·rw [zle _ _ e] at hi;exact ⟨e,hi⟩
 refine ⟨s.keep,λ i oi hi=>?_,λ i j oi oj hi hj=>s.dis i j oi oj (hne _ _ hi).2 (hne _ _ hj).2,λ i oi hi b j hb=>?_,s.old,λ b j hg=>?_,
  λ b j v he=>⟨(s.res b j v he).1,λ k2 hg=>hg.elim ((s.res b j v he).2.1 k2) ((s.res b j v he).2.2.2.2 id _ ho k2),(s.res b j v he).2.2.1,(s.res b j v he).2.2.2.1,λ i oi hi=>(s.res b j v he).2.2.2.2 i oi (hne _ _ hi).2⟩,λ i oi hi=>s.pl i oi (hne _ _ hi).2,λ i oi hi=>s.mo i oi (hne _ _ hi).2⟩
 ·obtain ⟨_,hi⟩:=hne i oi hi
  exact ⟨(s.own i oi hi).1,(s.own i oi hi).2.mono (c.le_freeze id) (λ _ _ _=>rfl) λ _ _ _=>⟨rfl,rfl⟩⟩
 ·obtain ⟨e,hi⟩:=hne i oi hi
  obtain ⟨h1,h2,h3⟩:=s.sep i oi hi b j hb
  exact ⟨h1,λ k' h=>h.elim (h2 k') (s.dis i id _ _ hi ho e b j k' hb),h3⟩
 ·rcases hg with hg | hg
  ·exact s.new b j hg
  ·refine ⟨?_,s.lt ho hg⟩
   rcases (s.sep id _ ho b j hg).2.2 with h | h
   ·cases h.1
   ·exact h
end Go.TL
namespace Go.TL
open Go
inductive Sh where
 | flat
 | bool
 | int (k:IntKind)
 | str
 | slice (el:Nat)
 | struct (fs:List (Nat×Nat))
 | other
 deriving Inhabited
def zmt:TypeDesc→Sh
 | .pointer _ | .func _ _ _=>.flat
 | .bool=>.bool
 | .int k=>.int k
 | .string=>.str
 | .slice el=>.slice el
 | .struct fs=>.struct (fs.toList.map λ f=>(f.type,f.offset))
 | _=>.other
structure TE where
 size:Nat
 bytes:Nat
 zero:List Value
 sh:Sh
 deriving Inhabited
def OkT (P:Program) (t:Nat) (e:TE):Prop :=
 (P.info? t).map (λ i=>(i.size,i.bytes,i.zero.map λ v=>v.cells.toList))=some (e.size,e.bytes,some e.zero)∧(P.underlying t).map zmt=some e.sh
abbrev Tab:=List (Nat×TE)
def zkm {α:Type}:List (Nat×α)→Nat→Option α
 | [],_=>none
 | (k,a) :: r,i=>if i=k then some a else zkm r i
def zlK (P:Program) (tab:Tab):Prop:=∀ p∈tab,OkT P p.1 p.2
theorem zlL {α:Type} {l:List (Nat×α)} {i:Nat} {a:α} (h:zkm l i=some a):(i,a)∈l:=by
 induction l with
 | nil=>cases h
 | cons p r ih =>
  obtain ⟨k,x⟩:=p
  simp only [zkm] at h
  split at h
  ·rename_i e;subst e;cases h;exact qbw
  ·exact qy _ (ih h)
structure St where
 T:List (Nat×LV)
 H:List (Nat×Option (Bool×Ob))
 nx:Nat
 nt:Nat
 deriving Inhabited
def tv (T:List (Nat×LV)) (i:Nat):LV:=(zkm T i).getD .un
def hp (H:List (Nat×Option (Bool×Ob))):zkO:=λ i=>(zkm H i).getD none
theorem zkD (H:List (Nat×Option (Bool×Ob))) (k:Nat) (x:Option (Bool×Ob)):hp ((k,x) :: H)=upd (hp H) k x:=by
 funext i
 simp only [hp,zkm,upd]
 split<;>simp
def zlg:Value→LV
 | .int k n=>.lf false (.sc (.int k n))
 | .bool b=>.lf false (.sc (.bool b))
 | .string s=>.lf false (.sc (.string s))
 | .slice none 0 0=>.nl
 | _=>.un
def znB:Value→LV
 | .agg vs=>.ag (vs.toList.map zlg)
 | v=>zlg v
def ev (T:List (Nat×LV)):Operand→LV
 | .tmp t=>tv T t
 | .const v=>znB v
 | .func f=>.fn f []
 | .global _=>.un
structure Res where
 pre:Prop
 v:LV
 H:List (Nat×Option (Bool×Ob))
 nx:Nat
def mk (t:Bool):Leaf→LV
 | .sc v=>.lf false (.sc v)
 | l=>.lf t l
def bin:BinOp→Value→Value→Option Value
 | .add,.int k a,.int k' b=>if k=k' then some (.int k (k.wrap (a+b))) else none
 | .sub,.int k a,.int k' b=>if k=k' then some (.int k (k.wrap (a - b))) else none
 | .mul,.int k a,.int k' b=>if k=k' then some (.int k (k.wrap (a * b))) else none
 | .quo,.int k a,.int k' b=>if k=k' then some (.int k (k.wrap (a.tdiv b))) else none
 | .rem,.int k a,.int k' b=>if k=k' then some (.int k (a.tmod b)) else none
 | .and,.int k a,.int k' b=>if k=k' then some (.int k (k.wrap (BitVec.ofInt k.bits a &&& BitVec.ofInt k.bits b).toNat)) else none
 | .or,.int k a,.int k' b=>if k=k' then some (.int k (k.wrap (BitVec.ofInt k.bits a ||| BitVec.ofInt k.bits b).toNat)) else none
 | .xor,.int k a,.int k' b=>if k=k' then some (.int k (k.wrap (BitVec.ofInt k.bits a ^^^ BitVec.ofInt k.bits b).toNat)) else none
 | .shl,.int k a,.int _ b=>some (.int k (k.wrap (a * 2 ^ (min b.toNat k.bits))))
 | .shr,.int k a,.int _ b=>some (.int k (a.fdiv (2 ^ (min b.toNat k.bits))))
 | .add,.string a,.string b=>some (.string (a++b))
 | .eql,.int k a,.int k' b=>if k=k' then some (.bool (a == b)) else none
 | .neq,.int k a,.int k' b=>if k=k' then some (.bool (a != b)) else none
 | .lss,.int k a,.int k' b=>if k=k' then some (.bool (a < b)) else none
 | .leq,.int k a,.int k' b=>if k=k' then some (.bool (a≤b)) else none
 | .gtr,.int k a,.int k' b=>if k=k' then some (.bool (a > b)) else none
 | .geq,.int k a,.int k' b=>if k=k' then some (.bool (a ≥ b)) else none
 | .eql,.string a,.string b=>some (.bool (a.toList == b.toList))
 | .neq,.string a,.string b=>some (.bool (!(a.toList == b.toList)))
 | .lss,.string a,.string b=>some (.bool (Op.bytesLess a.toList b.toList))
 | .leq,.string a,.string b=>some (.bool (Op.bytesLess a.toList b.toList || a.toList == b.toList))
 | .gtr,.string a,.string b=>some (.bool (!(Op.bytesLess a.toList b.toList || a.toList == b.toList)))
 | .geq,.string a,.string b=>some (.bool (!Op.bytesLess a.toList b.toList))
 | _,_,_=>none
def znd:BinOp→Value→Value→Prop
 | .quo,.int _ _,.int _ b=>b≠0
 | .rem,.int _ _,.int _ b=>b≠0
 | .shl,.int _ _,.int _ b=>0≤b
 | .shr,.int _ _,.int _ b=>0≤b
 | .add,.string a,.string b=>a.size+b.size≤9223372036854775807
 | _,_,_=>True
theorem zAg {P:Program} {op:BinOp} {x y v:Value} (h:bin op x y=some v) (hp:znd op x y) (t:TypeId) (w:World):(Go.binOp op t x y).run P w=.ok v w:=by
  unfold bin at h
  split at h<;>(try split at h)<;>cases h
  all_goals (try subst_vars)
  all_goals (simp only [znd] at hp)
  all_goals first
    | (simp_all [Go.binOp,Op.intArith,Op.intDiv,Op.intCmp,Op.stringOp,Op.intBits,Op.shift,Sem.run,pure];done)
    | (rename_i b;have h0:¬ b < 0:=by omega
       simp only [Go.binOp,Op.shift,h0,if_false];rfl)
    | (rename_i a b;have h0:¬ ((a.size+b.size:Nat):Int) > IntKind.i64.max:=by show ¬ ((a.size+b.size:Nat):Int) > 9223372036854775807;omega
       simp only [Go.binOp,Op.stringOp,h0,if_false];rfl)
end Go.TL
namespace Go.TL
open Go
structure Rel (w0:World) (W0:Fr) (c:Ctx) (s:St) (a:Act) (w:World):Prop where
 sit:Sit w0 W0 c (hp s.H) w
 nx:c.nx=s.nx
 tmp:∀ i,Cv w c (tv s.T i) (a.tmps.getD i undef)
 sz:a.tmps.size=s.nt
 df:a.defers=[]
theorem znC (w:World) (c:Ctx) (v:Value):Cv w c (zlg v) v:=by
 unfold zlg
 split
 ·exact .lf (.sc rfl)
 ·exact .lf (.sc rfl)
 ·exact .lf (.sc rfl)
 ·exact .nl _
 ·exact .un _
theorem zul (w:World) (c:Ctx) (v:Value):Cv w c (znB v) v:=by
 unfold znB
 split
 ·rename_i vs
  refine .ag (λ j=>vs.getD j undef) (by simp) (λ j hj=>?_) λ j hj=>?_
  ·have:j < vs.size:=by simpa using hj
   simp [this]
  ·have:j < vs.size:=by simpa using hj
   simp only [qi,qbt]
   rw [show vs.getD j undef=vs[j] by simp [this]]
   exact znC _ _ _
 ·exact znC _ _ _
theorem zkN {w0 w:World} {W0:Fr} {c:Ctx} {s:St} {a:Act} (r:Rel w0 W0 c s a w) (x:Operand):Cv w c (ev s.T x) (a.eval x):=by
 cases x with
 | tmp t=>exact r.tmp t
 | const v=>exact zul w c v
 | global g=>exact .un _
 | func f=>exact .fn (λ _=>undef) rfl (λ j hj=>by simp at hj) (λ j hj=>by simp at hj)
def zDH (n:Next) (v:Value):Prop:=n=.value v∨(n=.skip∧v=undef)
def Does (P:Program) (op:Op) (s:St) (r:Res):Prop :=
 ∀ (w0:World) (W0:Fr) (c:Ctx) (a:Act) (w:World),Rel w0 W0 c s a w→r.pre→∃ n w' c' v,
  (∀ o:Oper,o.op=op→(execOp a.eval o).run P w=.ok n w')∧zDH n v∧c.Le c'∧c'.nx=r.nx∧Sit w0 W0 c' (hp r.H) w'∧Same c w w'∧Cv w' c' r.v v
theorem Does.quiet {P:Program} {op:Op} {s:St} {r:Res} (hH:r.H=s.H) (hn:r.nx=s.nx)
  (h:∀ (w0:World) (W0:Fr) (c:Ctx) (a:Act) (w:World),Rel w0 W0 c s a w→r.pre→∃ v,(∀ o:Oper,o.op=op→(execOp a.eval o).run P w=.ok (.value v) w)∧Cv w c r.v v):Does P op s r:=by
 intro w0 W0 c a w hr hp
 obtain ⟨v,h1,h2⟩:=h w0 W0 c a w hr hp
 exact ⟨_,w,c,v,h1,.inl rfl,.refl c,by rw [hn,hr.nx],by rw [hH];exact hr.sit,.refl c w,h2⟩
section
variable {P:Program} {s:St}
theorem zxi (x:Operand):Does P (.move x) s ⟨True,ev s.T x,s.H,s.nx⟩ :=
 .quiet rfl rfl λ w0 W0 c a w hr _=>⟨a.eval x,λ o ho=>by unfold execOp;rw [ho];rfl,zkN hr x⟩
theorem zum (x:Operand):Does P (.assign x) s ⟨True,ev s.T x,s.H,s.nx⟩ :=
 .quiet rfl rfl λ w0 W0 c a w hr _=>⟨a.eval x,λ o ho=>by unfold execOp;rw [ho];rfl,zkN hr x⟩
theorem Cv.scalar {w:World} {c:Ctx} {t:Bool} {v x:Value} (h:Cv w c (.lf t (.sc v)) x):x=v∧zpm v=true:=by
 cases h with
 | lf h=>cases h with
  | sc h=>exact ⟨rfl,h⟩
def sc?:LV→Option Value
 | .lf _ (.sc v)=>some v
 | _=>none
theorem zl3 {w:World} {c:Ctx} {lv:LV} {v x:Value} (h:sc? lv=some v) (hc:Cv w c lv x):x=v∧zpm v=true:=by
 unfold sc? at h
 split at h
 ·cases h;exact hc.scalar
 ·cases h
def zrB (A B C:LV):Option LV :=
 match sc? C with
 | some (.bool b)=>match sc? A,sc? B with
  | some (.bool x),some (.bool y)=>some (.lf false (.sc (.bool (bif b then x else y))))
  | _,_=>some (bif b then A else B)
 | _=>none
theorem zxj {x y z:Operand} {lv:LV} (h:zrB (ev s.T y) (ev s.T z) (ev s.T x)=some lv):Does P (.pick x y z) s ⟨True,lv,s.H,s.nx⟩:=by
 refine .quiet rfl rfl λ w0 W0 c a w hr _=>?_
 unfold zrB at h
 split at h
 ·rename_i b hb
  have hx:=(zl3 hb (zkN hr x)).1
  have hrun:∀ o:Oper,o.op=.pick x y z→(execOp a.eval o).run P w=.ok (.value (if b then a.eval y else a.eval z)) w:=λ o ho=>by
   unfold execOp;rw [ho];simp [hx,asBool]
  refine ⟨_,hrun,?_⟩
  have hy:=zkN hr y
  have hz:=zkN hr z
  split at h
  ·rename_i p q hp hq
   cases h
   rw [(zl3 hp hy).1,(zl3 hq hz).1]
   cases b<;>exact .lf (.sc rfl)
  ·cases h
   cases b
   ·exact hz
   ·exact hy
 ·cases h
theorem zyu {op:BinOp} {x y v:Value} (h:bin op x y=some v):zpm v=true:=by
 unfold bin at h
 split at h<;>(try split at h)<;>(try split at h)<;>cases h<;>rfl
theorem zsS {op:BinOp} {x y:Value} (hx:zpm x=true) (t:TypeId) (u v:Operand) (w:World):(eqGuard op t u v x y).run P w=.ok () w:=by
 cases x<;>simp [zpm] at hx<;>cases op<;>simp [eqGuard]
theorem zyv {op:BinOp} {t t':TypeId} {x y:Operand} {p q v:Value} (hp:sc? (ev s.T x)=some p) (hq:sc? (ev s.T y)=some q) (hb:bin op p q=some v):Does P (.binOp op t x y t') s ⟨znd op p q,.lf false (.sc v),s.H,s.nx⟩:=by
 refine .quiet rfl rfl λ w0 W0 c a w hr hpre=>?_
 obtain ⟨ex,sx⟩:=zl3 hp (zkN hr x)
 obtain ⟨ey,sy⟩:=zl3 hq (zkN hr y)
 refine ⟨v,λ o ho=>?_,.lf (.sc (zyu hb))⟩
 unfold execOp
 rw [ho]
 simp only [ex,ey]
 have:=zsS (P:=P) (op:=op) (y:=q) sx t x y w
 have h2:=zAg (P:=P) hb hpre t w
 simp [this,h2]
def un1:UnOp→Value→Option Value
 | .not,.bool b=>some (.bool !b)
 | .neg,.int k n=>some (.int k (k.wrap (0 - n)))
 | _,_=>none
def zxk (op:UnOp) (A:LV):Option LV :=
 match sc? A with
 | some x=>(un1 op x).map λ v=>.lf false (.sc v)
 | _=>none
theorem zAh {op:UnOp} {t:TypeId} {x:Operand} {lv:LV} (h:zxk op (ev s.T x)=some lv):Does P (.unOp op t x) s ⟨True,lv,s.H,s.nx⟩:=by
 refine .quiet rfl rfl λ w0 W0 c a w hr _=>?_
 unfold zxk at h
 split at h
 ·rename_i p hp
  obtain ⟨ex,sx⟩:=zl3 hp (zkN hr x)
  unfold un1 at h
  split at h
  ·cases h
   exact ⟨_,λ o ho=>by unfold execOp;rw [ho];simp only [ex,Op.unary];rfl,.lf (.sc rfl)⟩
  ·cases h
   exact ⟨_,λ o ho=>by unfold execOp;rw [ho];simp only [ex,Op.unary,Op.intArith];rfl,.lf (.sc rfl)⟩
  ·cases h
 ·cases h
theorem ztz {x:Operand} {j:Nat} {ls:List LV} (h:ev s.T x=.tu ls) (hj:j < ls.length):Does P (.extract x j) s ⟨True,ls.getD j .un,s.H,s.nx⟩:=by
 refine .quiet rfl rfl λ w0 W0 c a w hr _=>?_
 have hx:=zkN hr x
 rw [h] at hx
 generalize hv:a.eval x=v at hx
 cases hx with
 | tu cs hn hv' hc =>
  refine ⟨cs j,λ o ho=>?_,?_⟩
  ·unfold execOp;rw [ho];simp [hv,Instr.extract,hv' j hj]
  ·rw [show ls.getD j .un=ls[j] by simp [hj]];exact hc j hj
end
end Go.TL
namespace Go.TL
open Go
section
variable {P:Program} {t:Nat} {e:TE}
theorem OkT.info (h:OkT P t e):∃ i z,P.info? t=some i∧i.size=e.size∧i.bytes=e.bytes∧i.zero=some z∧z.cells.toList=e.zero:=by
 obtain ⟨h,_⟩:=h
 cases hi:P.info? t with
 | none=>rw [hi] at h;cases h
 | some i =>
  rw [hi] at h
  simp only [qn,Option.some.injEq,Prod.mk.injEq] at h
  obtain ⟨h1,h2,h3⟩:=h
  cases hz:i.zero with
  | none=>rw [hz] at h3;cases h3
  | some z =>
   rw [hz] at h3
   simp only [qn,Option.some.injEq] at h3
   exact ⟨i,z,rfl,h1,h2,hz,h3⟩
theorem OkT.und (h:OkT P t e):∃ d,P.underlying t=some d∧zmt d=e.sh:=by
 obtain ⟨_,h⟩:=h
 cases hd:P.underlying t with
 | none=>rw [hd] at h;cases h
 | some d=>rw [hd] at h;exact ⟨d,rfl,by simpa using h⟩
theorem zrC {i:TypeInfo} (h:P.info? t=some i) (w:World):(typeInfo t).run P w=.ok i w:=by simp [typeInfo,h]
theorem zkS {d:TypeDesc} (h:P.underlying t=some d) (w:World):(underlying t).run P w=.ok d w:=by simp [underlying,h]
theorem OkT.runSize (h:OkT P t e) (w:World):(sizeOf t).run P w=.ok e.size w:=by
 obtain ⟨i,z,hi,h1,_⟩:=h.info
 simp [sizeOf,zrC hi,h1]
theorem OkT.runZero (h:OkT P t e):∃ z:Value,z.cells.toList=e.zero∧∀ w,(zeroValue t).run P w=.ok z w:=by
 obtain ⟨i,z,hi,_,_,hz,h3⟩:=h.info
 exact ⟨z,h3,λ w=>by simp [zeroValue,zrC hi,hz]⟩
def Sh.agg:Sh→Bool
 | .struct _=>true
 | _=>false
def Sh.known:Sh→Bool
 | .other=>false
 | _=>true
theorem OkT.runAgg (h:OkT P t e) (hk:e.sh.known=true) (w:World):(isAgg t).run P w=.ok e.sh.agg w:=by
 obtain ⟨d,hd,hs⟩:=h.und
 rw [← hs] at hk ⊢
 cases d<;>simp [zmt,Sh.known] at hk<;>simp [isAgg,zkS hd,zmt,Sh.agg]
end
theorem zlM (w:World) (cs:Array Value) (T:TypeId) (i:Nat):(w.alloc (.cells cs T)).cell? ⟨w.heap.size,i,none⟩=cs[i]?:=World.cell?_alloc_new w cs T i
theorem zma (w:World) (o:Obj):Keep (λ _ _=>False) w (w.alloc o) where
 os:=rfl
 tape:=rfl
 output:=rfl
 size:=by simp
 cell b k hb _:=World.cell?_alloc_lt w o _ hb
 frz b k hb:=World.frozen?_alloc_old w o _ (qbz hb)
 blk b hb _:=Go.RowKit.Below.heap_alloc w o b hb
 dr:=qg _
theorem zsT {w0 w:World} {W0:Fr} {c:Ctx} {H:zkO} (s:Sit w0 W0 c H w) (T:TypeId) (vs:Array Value) (ls:List LV) (hn:ls.length≤vs.size)
  (hv:∀ j (hj:j < ls.length) v,vs[j]?=some v→Cv w c (ls[j]) v) :
  Sit w0 W0 (c.push (Loc.flat (w.heap.size) (0) (vs.size))) (upd H c.nx (some (true,.box ls))) (w.alloc (.cells vs T))∧Same c w (w.alloc (.cells vs T)):=by
 have hs:=s.same (zma w (.cells vs T)) (λ _ _ _ h=>h.elim)
 refine s.push (zma w _) _ (λ _ _ h=>h) (λ _=>False) (λ _ h=>h.elim) (λ _ _ _ h=>h.elim) (λ b j hb=>.inl (by rw [(zlE hb).1];exact ⟨qg _,λ k'=>by simp⟩)) ?_ (λ _ h=>h.elim)
 refine ⟨hn,λ j hj=>?_,λ j hj v hv'=>?_⟩
 ·have hj':j < vs.size:=hj
  exact ⟨vs[j],by simp [hj'],by simp⟩
 ·simp only [ql,zlM] at hv'
  exact (hv j hj v hv').mono (c.le_push _) hs
def St.box (s:St) (ls:List LV):Res:=⟨True,.pb s.nx 0,(s.nx,some (true,.box ls)) :: s.H,s.nx+1⟩
theorem zmh (w:World) (o:Obj):({ w with heap:=w.heap.push o }:World)=w.alloc o:=rfl
section
variable {P:Program} {s:St}
theorem zvD {t:Nat} {e:TE} (h:OkT P t e):Does P (.alloc t) s (s.box (e.zero.map zlg)):=by
 intro w0 W0 c a w hr _
 obtain ⟨z,hz,hrun⟩:=h.runZero
 have hsz:(e.zero.map zlg).length=z.cells.size:=by rw [← hz];simp
 obtain ⟨hs,hsame⟩:=zsT hr.sit t z.cells (e.zero.map zlg) (by rw [hsz];exact qg _) (λ j hj v hv=>by
  rw [qi]
  have:z.cells.toList[j]?=some v:=by simpa using hv
  rw [hz] at this
  have hj':j < e.zero.length:=by simpa using hj
  rw [List.getElem?_eq_getElem hj'] at this
  cases this
  exact znC _ _ _)
 refine ⟨.value (.pointer (some ⟨w.heap.size,0,none⟩)),_,_,_,λ o ho=>?_,.inl rfl,c.le_push (Loc.flat (w.heap.size) (0) (z.cells.size)),?_,?_,hsame,?_⟩
 ·unfold execOp
  rw [ho]
  simp only [Instr.alloc,Sem.run_bind,hrun,Result.andThen_ok,newVar,newRow,run_newObj,Sem.run_pure,zmh]
 ·show c.nx+1=s.nx+1
  rw [hr.nx]
 ·show Sit w0 W0 _ (hp ((s.nx,_) :: s.H)) _
  rw [zkD,← hr.nx]
  exact hs
 ·have:=@Cv.pb (w.alloc (.cells z.cells t)) (c.push (Loc.flat (w.heap.size) (0) (z.cells.size))) c.nx 0 (qk _)
  rw [Ctx.push_loc] at this
  show Cv _ _ (.pb s.nx 0) _
  rw [← hr.nx]
  exact this
def flat:LV→Bool
 | .lf .. | .nl | .os .. | .pb .. | .pe .. | .ra .. | .fn ..=>true
 | _=>false
theorem znl {w:World} {c:Ctx} {lv:LV} {v:Value} (hf:flat lv=true) (h:Cv w c lv v):v.oneCell'=true∧v.cells=#[v]:=by
 cases h with
 | lf h=>cases h with
  | sc h=>revert h;cases v<;>simp [zpm,Value.oneCell',Value.cells]
  | nil=>exact ⟨rfl,rfl⟩
  | sl=>exact ⟨rfl,rfl⟩
  | raw h1 h2=>exact ⟨h1,h2⟩
 | un=>cases hf
 | nl=>exact ⟨rfl,rfl⟩
 | os=>exact ⟨rfl,rfl⟩
 | pb=>exact ⟨rfl,rfl⟩
 | pe=>exact ⟨rfl,rfl⟩
 | ra=>exact ⟨rfl,rfl⟩
 | ag=>cases hf
 | tu=>cases hf
 | fn=>exact ⟨rfl,rfl⟩
def zlh:LV→Option (List LV)
 | .ag ls=>some ls
 | lv=>if flat lv=true then some [lv] else none
theorem zmD {w:World} {c:Ctx} {lv:LV} {v:Value} {ls:List LV} (h:zlh lv=some ls) (hc:Cv w c lv v) :
  v.cells.size=ls.length∧∀ j (hj:j < ls.length) u,v.cells[j]?=some u→Cv w c (ls[j]) u:=by
 unfold zlh at h
 split at h
 ·cases h
  cases hc with
  | ag cs hn hv hcv =>
   refine ⟨hn,λ j hj u hu=>?_⟩
   have hu':some (cs j)=some u:=(hv j hj).symm.trans hu
   cases hu'
   exact hcv j hj
 ·split at h
  ·rename_i hf
   cases h
   obtain ⟨_,h2⟩:=znl hf hc
   rw [h2]
   refine ⟨rfl,λ j hj u hu=>?_⟩
   have:j=0:=by simp at hj;omega
   subst this
   simp at hu
   subst hu
   exact hc
  ·cases h
theorem zyw {t:Nat} {x:Operand} {ls:List LV} (h:zlh (ev s.T x)=some ls):Does P (.box t x) s (s.box ls):=by
 intro w0 W0 c a w hr _
 have hx:=zkN hr x
 obtain ⟨hn,hv⟩:=zmD h hx
 obtain ⟨hs,hsame⟩:=zsT hr.sit t (a.eval x).cells ls (by rw [hn];exact qg _) hv
 refine ⟨.value (.pointer (some ⟨w.heap.size,0,none⟩)),_,_,_,λ o ho=>?_,.inl rfl,c.le_push (Loc.flat (w.heap.size) (0) ((a.eval x).cells.size)),?_,?_,hsame,?_⟩
 ·unfold execOp
  rw [ho]
  simp only [Instr.box,Sem.run_bind,newVar,newRow,run_newObj,Result.andThen_ok,Sem.run_pure,zmh]
 ·show c.nx+1=s.nx+1
  rw [hr.nx]
 ·show Sit w0 W0 _ (hp ((s.nx,_) :: s.H)) _
  rw [zkD,← hr.nx]
  exact hs
 ·have:=@Cv.pb (w.alloc (.cells (a.eval x).cells t)) (c.push (Loc.flat (w.heap.size) (0) ((a.eval x).cells.size))) c.nx 0 (qk _)
  rw [Ctx.push_loc] at this
  show Cv _ _ (.pb s.nx 0) _
  rw [← hr.nx]
  exact this
theorem zmi (b o k:Nat):(⟨b,o,none⟩:Addr).add k=⟨b,o+k,none⟩:=by unfold Addr.add;split<;>simp_all
theorem zmy {t:Nat} {e:TE} (h:OkT P t e) (hk:e.sh.known=true) {w:World} {b o:Nat} {cs:Nat→Value} (n:Nat) (hn:e.size=n) (h1:e.sh.agg=false→0 < n)
  (hc:∀ j,j < n→w.cell? ⟨b,o+j,none⟩=some (cs j)) :
  (loadVar t ⟨b,o,none⟩).run P w=.ok (if e.sh.agg then .agg ((List.range n).map cs).toArray else cs 0) w:=by
 unfold loadVar
 simp only [Sem.run_bind,h.runAgg hk,Result.andThen_ok]
 cases ha:e.sh.agg with
 | true =>
  simp only [if_true,Sem.run_bind,h.runSize,Result.andThen_ok,hn]
  rw [run_loadCells w ⟨b,o,none⟩ n cs (λ j hj=>by rw [zmi];exact hc j hj)]
  simp
 | false =>
  have:=hc 0 (h1 ha)
  simp only [qv] at this
  simp [this]
def znm (agg:Bool) (ls:List LV):LV:=if agg then .ag ls else ls.getD 0 .un
theorem zou {w:World} {c:Ctx} {agg:Bool} {ls:List LV} {cs:Nat→Value} (h:∀ j (hj:j < ls.length),Cv w c (ls[j]) (cs j)) (h1:agg=false→0 < ls.length) :
  Cv w c (znm agg ls) (if agg then .agg ((List.range ls.length).map cs).toArray else cs 0):=by
 cases agg with
 | true =>
  refine .ag cs (by simp) (λ j hj=>?_) h
  simp [hj]
 | false =>
  have h0:=h1 rfl
  have:=h 0 h0
  unfold znm
  simp only [qbx,if_false]
  rw [show ls.getD 0 .un=ls[0] by simp [h0]]
  exact this
theorem ztA {t:Nat} {e:TE} {x:Operand} {id off:Nat} {fr:Bool} {ls:List LV} (h:OkT P t e) (hk:e.sh.known=true) (hx:ev s.T x=.pb id off) (ho:hp s.H id=some (fr,.box ls))
  (hb:off+e.size≤ls.length) (h1:e.sh.agg=false→0 < e.size):Does P (.load t x) s ⟨True,znm e.sh.agg ((ls.drop off).take e.size),s.H,s.nx⟩:=by
 refine .quiet rfl rfl λ w0 W0 c a w hr _=>?_
 have hx':=zkN hr x
 rw [hx] at hx'
 generalize hv:a.eval x=v at hx'
 cases hx' with
 | pb hid =>
  obtain ⟨g1,g2,g3⟩:Holds w c (c.loc id) (.box ls):=(hr.sit.own id _ ho).2
  have hcell:∀ j,j < e.size→w.cell? ⟨(c.loc id).b,(c.loc id).base+off+j,none⟩=some ((w.cell? ⟨(c.loc id).b,(c.loc id).base+off+j,none⟩).getD undef):=by
   intro j hj
   obtain ⟨u,hu,_⟩:=g2 (off+j) (by omega)
   rw [← qb] at hu
   rw [hu];rfl
  refine ⟨if e.sh.agg then .agg ((List.range e.size).map λ j=>(w.cell? ⟨(c.loc id).b,(c.loc id).base+off+j,none⟩).getD undef).toArray else (w.cell? ⟨(c.loc id).b,(c.loc id).base+off+0,none⟩).getD undef,λ o ho=>?_,?_⟩
  ·unfold execOp
   rw [ho]
   simp only [hv,Instr.loadAt,Instr.sureAddr,Sem.run_bind,Sem.run_pure,Result.andThen_ok]
   rw [zmy h hk e.size rfl h1 hcell]
   rfl
  ·have hlen:((ls.drop off).take e.size).length=e.size:=by simp;omega
   have:=zou (agg:=e.sh.agg) (ls:=(ls.drop off).take e.size) (w:=w) (c:=c) (cs:=λ j=>(w.cell? ⟨(c.loc id).b,(c.loc id).base+off+j,none⟩).getD undef) (λ j hj=>by
    rw [hlen] at hj
    simp only [qm,qh]
    have:=hcell j hj
    rw [qb] at this ⊢
    exact g3 (off+j) (by omega) _ this) (by rw [hlen];exact h1)
   rw [hlen] at this
   exact this
theorem zBf {w:World} {c:Ctx} {tt:Bool} {l:Leaf} {v:Value} (h:RepL w (c.fs tt) v l):Cv w c (mk tt l) v:=by
 cases h with
 | sc hs=>exact .lf (.sc hs)
 | raw h1 h2=>exact .lf (.raw h1 h2)
 | nil=>exact .lf .nil
 | sl cs a b d e=>exact .lf (.sl cs a b d e)
theorem ztB {t:Nat} {e:TE} {x:Operand} {tt:Bool} {ls:List Leaf} (h:OkT P t e) (hk:e.sh.known=true) (hx:ev s.T x=.ra tt ls)
  (hb:e.size≤ls.length) (h1:e.sh.agg=false→0 < e.size):Does P (.load t x) s ⟨True,znm e.sh.agg ((ls.take e.size).map (mk tt)),s.H,s.nx⟩:=by
 refine .quiet rfl rfl λ w0 W0 c a w hr _=>?_
 have hx':=zkN hr x
 rw [hx] at hx'
 generalize hv:a.eval x=v at hx'
 cases hx' with
 | ra cs hS hrep =>
  refine ⟨if e.sh.agg then .agg ((List.range e.size).map cs).toArray else cs 0,λ o ho=>?_,?_⟩
  ·unfold execOp
   rw [ho]
   simp only [hv,Instr.loadAt,Instr.sureAddr,Sem.run_bind,Sem.run_pure,Result.andThen_ok]
   rw [zmy h hk e.size rfl h1 (λ j hj=>(hS j (by omega)).2)]
   rfl
  ·have hlen:((ls.take e.size).map (mk tt)).length=e.size:=by simp;omega
   have:=zou (agg:=e.sh.agg) (ls:=(ls.take e.size).map (mk tt)) (w:=w) (c:=c) (cs:=cs) (λ j hj=>by
    rw [hlen] at hj
    simp only [qi,qm]
    exact zBf (hrep j (by omega))) (by rw [hlen];exact h1)
   rw [hlen] at this
   exact this
end
end Go.TL
namespace Go.TL
open Go
theorem keep_setCells (w:World) (b o:Nat) (vs:List Value):Keep (λ x k=>x=b∧o≤k∧k < o+vs.length) w (w.setCells b o vs):=by
 induction vs generalizing o w with
 | nil=>exact Keep.refl _ _
 | cons v r ih =>
  have h1:Keep (λ x k=>x=b∧k=o) w (w.setCell ⟨b,o,none⟩ v):=by
   refine ⟨rfl,rfl,rfl,by simp,λ x k _ hd=>World.cell?_setCell_other _ _ _ _ λ e=>hd ?_,λ x k _=>World.frozen?_setCell _ _ _ _,λ x _ hd=>Go.RowKit.Below.heap_setCell w _ v x λ e=>hd o ⟨e,rfl⟩,by unfold World.setCell;exact qg _⟩
   cases e
   exact ⟨rfl,rfl⟩
  have h2:=ih (w.setCell ⟨b,o,none⟩ v) (o+1)
  refine (h1.mono (E:=λ x k=>x=b∧o≤k∧k < o+(v :: r).length) λ x y _ ⟨e1,e2⟩=>⟨e1,by simp;omega⟩).trans h2 λ x y _ ⟨e1,e2,e3⟩=>⟨e1,by omega,by simp;omega⟩
def put {α:Type} (ls:List α) (off:Nat) (vs:List α):List α:=ls.take off++vs++ls.drop (off+vs.length)
theorem zlD {α:Type} (ls:List α) (off:Nat) (vs:List α) (h:off+vs.length≤ls.length):(put ls off vs).length=ls.length:=by
 simp [put];omega
theorem zwy {α:Type} (ls:List α) (off:Nat) (vs:List α) (h:off+vs.length≤ls.length) (j:Nat) :
  (put ls off vs)[j]?=if off≤j∧j < off+vs.length then vs[j - off]? else ls[j]?:=by
 unfold put
 rw [qcb,List.getElem?_append]
 have ht:(ls.take off).length=off:=by simp;omega
 rw [ht]
 by_cases h1:j < off
 ·rw [if_pos h1,if_neg (by omega),List.getElem?_take_of_lt h1]
 ·rw [if_neg h1,List.getElem?_append]
  by_cases h2:j < off+vs.length
  ·rw [if_pos (by omega),if_pos (by omega)]
  ·rw [if_neg (by omega),if_neg (by omega),List.getElem?_drop]
   congr 1
   omega
theorem ztC {α:Type} (ls:List α) (off:Nat) (vs:List α) (h:off+vs.length≤ls.length) (j:Nat) (hj:j < vs.length) (hj':off+j < (put ls off vs).length):(put ls off vs)[off+j]=vs[j]:=by
 apply Option.some.inj
 rw [← List.getElem?_eq_getElem,← List.getElem?_eq_getElem,zwy _ _ _ h,if_pos (by omega)]
 congr 1
 omega
theorem zrn {α:Type} (ls:List α) (off:Nat) (vs:List α) (h:off+vs.length≤ls.length) (j:Nat) (hj:j < ls.length) (ho:j < off∨off+vs.length≤j) (hj':j < (put ls off vs).length):(put ls off vs)[j]=ls[j]:=by
 apply Option.some.inj
 rw [← List.getElem?_eq_getElem,← List.getElem?_eq_getElem,zwy _ _ _ h,if_neg (by omega)]
section
variable {P:Program} {s:St}
theorem zov {t:Nat} {e:TE} (h:OkT P t e) {w:World} {b o:Nat} {v:Value} (hn:v.cells.size=e.size) (hc:∀ j,j < e.size→∃ u,w.cell? ⟨b,o+j,none⟩=some u∧w.frozen? ⟨b,o+j,none⟩=false)
  (h1:∀ u∈v.cells.toList,u.oneCell'=true):(storeVar t ⟨b,o,none⟩ v).run P w=.ok () (w.setCells b o v.cells.toList):=by
 unfold storeVar
 simp only [Sem.run_bind,h.runSize,Result.andThen_ok,hn,ne_eq,not_true_eq_false,if_false,Sem.run_ite,Sem.run_pure]
 have hl:v.cells.toList.length=e.size:=by simpa using hn
 rw [run_storeCells_cells b o v.cells.toList 0 w (λ j hj=>by obtain ⟨u,hu,_⟩:=hc j (by omega);simp [hu]) (λ j hj=>by obtain ⟨u,_,hf⟩:=hc j (by omega);simpa using hf) h1]
 rfl
theorem zsB {t:Nat} {e:TE} {x y:Operand} {id off:Nat} {fr:Bool} {ls ks:List LV} (h:OkT P t e) (hx:ev s.T x=.pb id off) (ho:hp s.H id=some (fr,.box ls))
  (hy:zlh (ev s.T y)=some ks) (hf:ks.all flat=true) (hk:ks.length=e.size) (hb:off+e.size≤ls.length) :
  Does P (.store t x y) s ⟨True,.un,(id,some (fr,.box (put ls off ks))) :: s.H,s.nx⟩:=by
 intro w0 W0 c a w hr _
 have hx':=zkN hr x
 rw [hx] at hx'
 have hy':=zkN hr y
 obtain ⟨hn,hv⟩:=zmD hy hy'
 generalize hxv:a.eval x=xv at hx'
 generalize hyv:a.eval y=yv at hn hv
 cases hx' with
 | pb hid =>
  obtain ⟨g1,g2,g3⟩:Holds w c (c.loc id) (.box ls):=(hr.sit.own id _ ho).2
  have hlen:yv.cells.toList.length=e.size:=by simp [hn,hk]
  have hthere:∀ j,j < e.size→∃ u,w.cell? ⟨(c.loc id).b,(c.loc id).base+off+j,none⟩=some u∧w.frozen? ⟨(c.loc id).b,(c.loc id).base+off+j,none⟩=false:=by
   intro j hj
   obtain ⟨u,hu,hz⟩:=g2 (off+j) (by omega)
   rw [← qb] at hu hz
   exact ⟨u,hu,hz⟩
  have hflat:∀ j (hj:j < ks.length) u,yv.cells[j]?=some u→u.oneCell'=true:=by
   intro j hj u hu
   exact (znl (by rw [qr] at hf;exact hf _ (qa hj)) (hv j hj u hu)).1
  have hone:∀ u∈yv.cells.toList,u.oneCell'=true:=by
   intro u hu
   obtain ⟨j,hj,rfl⟩:=qo hu
   refine hflat j (by omega) _ ?_
   have:j < yv.cells.size:=by simpa using hj
   simp [this]
  have hrun:=zov (P:=P) h (w:=w) (b:=(c.loc id).b) (o:=(c.loc id).base+off) (v:=yv) (by omega) hthere hone
  have hkeep:=keep_setCells w (c.loc id).b ((c.loc id).base+off) yv.cells.toList
  have hcells:∀ j (hj:j < e.size),(w.setCells (c.loc id).b ((c.loc id).base+off) yv.cells.toList).cell? ⟨(c.loc id).b,(c.loc id).base+off+j,none⟩=yv.cells[j]?:=by
   intro j hj
   rw [World.cell?_setCells_in (c.loc id).b yv.cells.toList _ w (λ i hi=>by obtain ⟨u,hu,_⟩:=hthere i (by omega);simp [hu]) j (by omega)]
   have:j < yv.cells.size:=by omega
   simp [this]
  have hsub:∀ b j,b < w.heap.size→(b=(c.loc id).b∧(c.loc id).base+off≤j∧j < (c.loc id).base+off+yv.cells.toList.length)→inR (c.loc id) b j:=by
   rintro b j _ ⟨rfl,h1,h2⟩
   exact .inl ⟨rfl,by omega⟩
  have hsame:=hr.sit.same hkeep λ b j hb d=>⟨id,_,ho,hsub b j hb d⟩
  obtain ⟨hsit,_⟩:=hr.sit.upd (o':=.box (put ls off ks)) hkeep ho hsub (by
   refine ⟨by rw [zlD _ _ _ (by omega)];exact g1,λ j hj=>?_,λ j hj u hu=>?_⟩
   ·by_cases hin:off≤j∧j < off+e.size
    ·have:=hcells (j - off) (by omega)
     rw [show (c.loc id).base+off+(j - off)=(c.loc id).base+j by omega] at this
     have hlt:j - off < yv.cells.size:=by omega
     refine ⟨yv.cells[j - off],by rw [this];simp [hlt],?_⟩
     rw [World.frozen?_setCells]
     exact (g2 j hj).elim λ _ h=>h.2
    ·obtain ⟨u,hu,hz⟩:=g2 j hj
     refine ⟨u,?_,by rw [World.frozen?_setCells];exact hz⟩
     rw [World.cell?_setCells_out _ _ _ _ _ (λ _ _=>by simp only;omega)]
     exact hu
   ·rw [zlD _ _ _ (by omega)] at hj
    by_cases hin:off≤j∧j < off+e.size
    ·have hc:=hcells (j - off) (by omega)
     rw [show (c.loc id).base+off+(j - off)=(c.loc id).base+j by omega] at hc
     rw [hc] at hu
     have he:(put ls off ks)[j]'(by rw [zlD _ _ _ (by omega)];exact hj)=ks[j - off]'(by omega):=by
      have:=ztC ls off ks (by omega) (j - off) (by omega) (by rw [zlD _ _ _ (by omega)];omega)
      simpa [show off+(j - off)=j by omega] using this
     rw [he]
     exact (hv (j - off) (by omega) u hu).mono (.refl c) hsame
    ·rw [World.cell?_setCells_out _ _ _ _ _ (λ _ _=>by simp only;omega)] at hu
     rw [zrn ls off ks (by omega) j hj (by omega)]
     exact (g3 j hj u hu).mono (.refl c) hsame)
  refine ⟨.skip,_,c,undef,λ o ho'=>?_,.inr ⟨rfl,rfl⟩,.refl c,hr.nx,?_,hsame,.un _⟩
  ·unfold execOp
   rw [ho']
   simp only [hxv,hyv,Instr.storeAt,Instr.sureAddr,Sem.run_bind,Sem.run_pure,Result.andThen_ok]
   rw [hrun]
   rfl
  ·show Sit w0 W0 c (hp ((id,_) :: s.H)) _
   rw [zkD]
   exact hsit
theorem OkT.field {t:Nat} {e:TE} {fs:List (Nat×Nat)} (h:OkT P t e) (hs:e.sh=.struct fs) {f ft fo:Nat} (hf:fs[f]?=some (ft,fo)) :
  ∃ (flds:Array Field) (fl:Field),P.underlying t=some (.struct flds)∧flds[f]?=some fl∧fl.type=ft∧fl.offset=fo:=by
 obtain ⟨d,hd,hsh⟩:=h.und
 rw [hs] at hsh
 cases d<;>simp [zmt] at hsh
 rename_i flds
 refine ⟨flds,?_⟩
 rw [← hsh,List.getElem?_map] at hf
 cases hq:flds.toList[f]? with
 | none=>rw [hq] at hf;cases hf
 | some fl =>
  rw [hq] at hf
  simp only [qn,Option.some.injEq,Prod.mk.injEq] at hf
  exact ⟨fl,hd,by simpa using hq,hf.1,hf.2⟩
def zoJ:LV→Nat→Option LV
 | .pb id off,k=>some (.pb id (off+k))
 | .pe id es i off,k=>some (.pe id es i (off+k))
 | .ra t ls,k=>some (.ra t (ls.drop k))
 | _,_=>none
theorem zun {w:World} {c:Ctx} {lv lv':LV} {v:Value} {k:Nat} (h:zoJ lv k=some lv') (hc:Cv w c lv v):∃ b o,v=.pointer (some ⟨b,o,none⟩)∧Cv w c lv' (.pointer (some ⟨b,o+k,none⟩)):=by
 unfold zoJ at h
 split at h<;>cases h
 ·cases hc with
  | pb hid=>exact ⟨_,_,rfl,by rw [qb];exact .pb hid⟩
 ·cases hc with
  | pe hid=>exact ⟨_,_,rfl,by rw [qb,qb];exact .pe hid⟩
 ·cases hc with
  | ra cs hS hr =>
   refine ⟨_,_,rfl,.ra (λ j=>cs (k+j)) (λ j hj=>?_) λ j hj=>?_⟩
   ·rw [qb]
    exact hS (k+j) (by simp at hj;omega)
   ·simp only [qh]
    exact hr (k+j) (by simp at hj;omega)
theorem zrD {t:Nat} {e et:TE} {x:Operand} {fs:List (Nat×Nat)} {f ft fo:Nat} {lv:LV} (h:OkT P t e) (hs:e.sh=.struct fs) (hf:fs[f]?=some (ft,fo)) (ht:OkT P ft et) (hz:et.size≠0)
  (hm:zoJ (ev s.T x) fo=some lv):Does P (.fieldAddr t x f) s ⟨True,lv,s.H,s.nx⟩:=by
 refine .quiet rfl rfl λ w0 W0 c a w hr _=>?_
 obtain ⟨b,o,hv,hc⟩:=zun hm (zkN hr x)
 obtain ⟨flds,fl,hu,hfl,h1,h2⟩:=h.field hs hf
 refine ⟨_,λ o ho=>?_,hc⟩
 unfold execOp
 rw [ho]
 have hsz:=ht.runSize w
 rw [← h1] at hsz
 simp only [hv,Instr.fieldAt,Sem.run_bind,zkS hu,Result.andThen_ok,hfl,Instr.sureAddr,Sem.run_pure,fieldPlace,hsz,hz,if_false,Sem.run_ite,zmi,h2]
theorem zsC {x:Operand} {lv:LV} (h:zoJ (ev s.T x) 0=some lv):Does P (.nilCheck x) s ⟨True,ev s.T x,s.H,s.nx⟩:=by
 refine .quiet rfl rfl λ w0 W0 c a w hr _=>?_
 have hx:=zkN hr x
 obtain ⟨b,o,hv,_⟩:=zun h hx
 refine ⟨a.eval x,λ o ho=>?_,hx⟩
 unfold execOp
 rw [ho]
 simp only [hv]
 rfl
end
end Go.TL
namespace Go.TL
open Go
def zsU:LV→Option (Bool×Leaf)
 | .lf t l=>some (t,l)
 | .nl=>some (false,.sl [])
 | _=>none
theorem Ctx.fs_or {c:Ctx} {t u:Bool} {b k:Nat} (h:c.fs t b k):c.fs (t || u) b k∧c.fs (u || t) b k:=by
 rcases h with h | ⟨rfl,h⟩
 ·exact ⟨.inl h,.inl h⟩
 ·exact ⟨.inr ⟨by simp,h⟩,.inr ⟨by simp,h⟩⟩
theorem RepL.sub {w:World} {S S':zkF} {v:Value} {l:Leaf} (h:RepL w S v l) (hs:∀ b k,S b k→S' b k):RepL w S' v l:=h.mono hs λ _ _ _=>rfl
theorem zAi {w:World} {c:Ctx} {lv:LV} {t:Bool} {l:Leaf} {v:Value} (h:zsU lv=some (t,l)) (hc:Cv w c lv v):RepL w (c.fs t) v l:=by
 unfold zsU at h
 split at h
 ·cases h;cases hc with
  | lf h=>exact h
 ·cases h;cases hc with
  | nl a=>exact .nil
 ·cases h
def zlG:List LV→Option (Bool×List Leaf)
 | []=>some (false,[])
 | lv :: r=>match zsU lv,zlG r with
  | some (t,l),some (u,ls)=>some (t || u,l :: ls)
  | _,_=>none
theorem zpa {w:World} {c:Ctx}:∀ {ks:List LV} {t:Bool} {ls:List Leaf} (_:zlG ks=some (t,ls)),ls.length=ks.length ∧
  ∀ j (hj:j < ks.length) (hj':j < ls.length) v,Cv w c (ks[j]) v→RepL w (c.fs t) v (ls[j])
 | [],t,ls,h=>by cases h;exact ⟨rfl,λ j hj=>by simp at hj⟩
 | lv :: r,t,ls,h=>by
  unfold zlG at h
  split at h
  ·rename_i t1 l u ls' h1 h2
   cases h
   obtain ⟨hn,ih⟩:=zpa (w:=w) (c:=c) h2
   refine ⟨by simp [hn],λ j hj hj' v hv=>?_⟩
   cases j with
   | zero=>exact (zAi h1 hv).sub λ b k x=>(Ctx.fs_or x).1
   | succ j=>exact (ih j (by simpa using hj) (by simpa using hj') v hv).sub λ b k x=>(Ctx.fs_or x).2
  ·cases h
theorem zoK:∀ {ks:List LV} {t:Bool} {ls:List Leaf},zlG ks=some (t,ls)→ks.all flat=true
 | [],_,_,_=>rfl
 | lv :: r,t,ls,h=>by
  unfold zlG at h
  split at h
  ·rename_i t1 l u ls' h1 h2
   have:=zoK h2
   simp only [qcl,this,Bool.and_true]
   unfold zsU at h1
   split at h1<;>first | rfl | cases h1
  ·cases h
section
variable {P:Program} {s:St}
theorem OkT.slice {t:Nat} {e:TE} {el:Nat} (h:OkT P t e) (hs:e.sh=.slice el):P.underlying t=some (.slice el):=by
 obtain ⟨d,hd,hsh⟩:=h.und
 rw [hs] at hsh
 cases d<;>simp [zmt] at hsh
 subst hsh
 exact hd
theorem zAj {w:World} {S:zkF} {v:Value} {rows:List (List Leaf)} {row:List Leaf} {i:Nat} (h:RepL w S v (.sl rows)) (hi:rows[i]?=some row) :
  ∃ b off cap,v=.slice (some ⟨b,off,none⟩) rows.length cap∧∃ cs:Nat→Value,(∀ j,j < row.length→S b (off+i * row.length+j)∧w.cell? ⟨b,off+i * row.length+j,none⟩=some (cs j)) ∧
   ∀ j (hj:j < row.length),RepL w S (cs j) (row[j]):=by
 have hlt:i < rows.length:=by
  rcases qj i rows.length with h1 | h1
  ·exact h1
  ·rw [List.getElem?_eq_none h1] at hi;cases hi
 rw [List.getElem?_eq_getElem hlt] at hi
 cases hi
 generalize hl:Leaf.sl rows=l at h
 cases h with
 | sc h=>cases hl
 | raw=>cases hl
 | nil=>cases hl;simp at hlt
 | sl cs hes hcap hS hr =>
  cases hl
  rename_i b off cap es
  have he:(rows[i]).length=es:=hes _ (qa hlt)
  refine ⟨b,off,cap,rfl,cs i,λ j hj=>?_,λ j hj=>hr i j hlt hj⟩
  rw [he] at hj ⊢
  rw [qb]
  exact hS i j hlt hj
theorem zpP {t el:Nat} {e ee:TE} {x y:Operand} {tt:Bool} {rows:List (List Leaf)} {k:IntKind} {n:Int} {row:List Leaf} (h:OkT P t e) (hs:e.sh=.slice el) (he:OkT P el ee)
  (hx:ev s.T x=.lf tt (.sl rows)) (hy:sc? (ev s.T y)=some (.int k n)):Does P (.indexAddr t x y) s ⟨0≤n∧rows[n.toNat]?=some row∧row.length=ee.size,.ra tt row,s.H,s.nx⟩:=by
 refine .quiet rfl rfl λ w0 W0 c a w hr ⟨h0,hrow,hlen⟩=>?_
 have hx':=zkN hr x
 rw [hx] at hx'
 have hy':=(zl3 hy (zkN hr y)).1
 generalize hxv:a.eval x=xv at hx'
 cases hx' with
 | lf hrep =>
  obtain ⟨b,off,cap,rfl,cs,hS,hrp⟩:=zAj hrep hrow
  have hlt:n.toNat < rows.length:=by
   rcases qj n.toNat rows.length with h1 | h1
   ·exact h1
   ·rw [List.getElem?_eq_none h1] at hrow;cases hrow
  refine ⟨.pointer (some ⟨b,off+n.toNat * row.length,none⟩),λ o ho=>?_,.ra cs hS hrp⟩
  unfold execOp
  rw [ho]
  have hin:0≤n∧n < (rows.length:Int):=⟨h0,by omega⟩
  simp only [hxv,hy',Instr.indexAt,asIntOf,Sem.run_bind,Sem.run_pure,Result.andThen_ok,zkS (h.slice hs),hin,and_self,if_true,Sem.run_ite,he.runSize,zmi,hlen]
theorem zpQ {t el:Nat} {e ee:TE} {x y:Operand} {id es lo len mc:Nat} {ex:Bool} {k:IntKind} {n:Int} (h:OkT P t e) (hs:e.sh=.slice el) (he:OkT P el ee) (hes:ee.size=es)
  (hx:ev s.T x=.os id es lo len mc ex) (hy:sc? (ev s.T y)=some (.int k n)):Does P (.indexAddr t x y) s ⟨0≤n∧n < len,.pe id es (lo+n.toNat) 0,s.H,s.nx⟩:=by
 refine .quiet rfl rfl λ w0 W0 c a w hr ⟨h0,hlt⟩=>?_
 have hx':=zkN hr x
 rw [hx] at hx'
 have hy':=(zl3 hy (zkN hr y)).1
 generalize hxv:a.eval x=xv at hx'
 cases hx' with
 | os hid hl hm hxx ha hn =>
  rcases ha with h1 | rfl
  ·omega
  refine ⟨.pointer (some ⟨(c.loc id).b,(c.loc id).base+lo * es+n.toNat * es,none⟩),λ o ho=>?_,?_⟩
  ·unfold execOp
   rw [ho]
   have hin:0≤n∧n < (len:Int):=⟨h0,hlt⟩
   simp only [hxv,hy',Instr.indexAt,asIntOf,Sem.run_bind,Sem.run_pure,Result.andThen_ok,zkS (h.slice hs),hin,and_self,if_true,Sem.run_ite,he.runSize,zmi,hes]
  ·have:=@Cv.pe w c id es (lo+n.toNat) 0 hid
   rw [show (c.loc id).base+((lo+n.toNat) * es+0)=(c.loc id).base+lo * es+n.toNat * es by rw [qd];omega] at this
   exact this
theorem ztD {t:Nat} {e:TE} {x:Operand} {id es i off:Nat} {fr tt:Bool} {rows:List (List Leaf)} {row:List Leaf} (h:OkT P t e) (hk:e.sh.known=true) (hx:ev s.T x=.pe id es i off) (ho:hp s.H id=some (fr,.arr tt es rows))
  (h1:e.sh.agg=false→0 < e.size):Does P (.load t x) s ⟨rows[i]?=some row∧off+e.size≤row.length,znm e.sh.agg (((row.drop off).take e.size).map (mk tt)),s.H,s.nx⟩:=by
 refine .quiet rfl rfl λ w0 W0 c a w hr ⟨hrow,hb⟩=>?_
 have hx':=zkN hr x
 rw [hx] at hx'
 generalize hv:a.eval x=v at hx'
 cases hx' with
 | pe hid =>
  obtain ⟨g1,g0,g2,g3⟩:Holds w c (c.loc id) (.arr tt es rows):=(hr.sit.own id _ ho).2
  have hlt:i < rows.length:=by
   rcases qj i rows.length with h1 | h1
   ·exact h1
   ·rw [List.getElem?_eq_none h1] at hrow;cases hrow
  rw [List.getElem?_eq_getElem hlt] at hrow
  cases hrow
  have hes:(rows[i]).length=es:=g0 _ (qa hlt)
  have hcell:∀ j,j < e.size→w.cell? ⟨(c.loc id).b,(c.loc id).base+(i * es+off)+j,none⟩=some ((w.cell? ⟨(c.loc id).b,(c.loc id).base+(i * es+off)+j,none⟩).getD undef):=by
   intro j hj
   have:=zk1 (es:=es) (j:=off+j) hlt (by omega)
   obtain ⟨u,hu,_⟩:=g2 (i * es+(off+j)) (by omega)
   rw [show (c.loc id).base+(i * es+(off+j))=(c.loc id).base+(i * es+off)+j by omega] at hu
   rw [hu];rfl
  refine ⟨if e.sh.agg then .agg ((List.range e.size).map λ j=>(w.cell? ⟨(c.loc id).b,(c.loc id).base+(i * es+off)+j,none⟩).getD undef).toArray else (w.cell? ⟨(c.loc id).b,(c.loc id).base+(i * es+off)+0,none⟩).getD undef,λ o ho=>?_,?_⟩
  ·unfold execOp
   rw [ho]
   simp only [hv,Instr.loadAt,Instr.sureAddr,Sem.run_bind,Sem.run_pure,Result.andThen_ok]
   rw [zmy h hk e.size rfl h1 hcell]
   rfl
  ·have hlen:((((rows[i]).drop off).take e.size).map (mk tt)).length=e.size:=by simp;omega
   have:=zou (agg:=e.sh.agg) (ls:=(((rows[i]).drop off).take e.size).map (mk tt)) (w:=w) (c:=c) (cs:=λ j=>(w.cell? ⟨(c.loc id).b,(c.loc id).base+(i * es+off)+j,none⟩).getD undef) (λ j hj=>by
    rw [hlen] at hj
    simp only [qi,qm,qh]
    refine zBf (g3 i (off+j) hlt (by omega) _ ?_)
    rw [show (c.loc id).base+(i * es+(off+j))=(c.loc id).base+(i * es+off)+j by omega]
    exact hcell j hj) (by rw [hlen];exact h1)
   rw [hlen] at this
   exact this
theorem zwz {rows:List (List Leaf)} {i:Nat} {r:List Leaf} {es:Nat} (h0:∀ r∈rows,r.length=es) (hr:r.length=es):∀ x∈rows.set i r,x.length=es:=by
 intro x hx
 rcases List.mem_or_eq_of_mem_set hx with h | h
 ·exact h0 x h
 ·rw [h];exact hr
theorem zsD {t:Nat} {e:TE} {x y:Operand} {id es i off:Nat} {fr tt tu:Bool} {rows:List (List Leaf)} {row:List Leaf} {ks:List LV} {ls:List Leaf} (h:OkT P t e) (hx:ev s.T x=.pe id es i off)
  (ho:hp s.H id=some (fr,.arr tt es rows)) (hy:zlh (ev s.T y)=some ks) (hl:zlG ks=some (tu,ls)) (hk:ks.length=e.size) :
  Does P (.store t x y) s ⟨rows[i]?=some row∧off+e.size≤row.length,.un,(id,some (fr,.arr (tt || tu) es (rows.set i (put row off ls)))) :: s.H,s.nx⟩:=by
 intro w0 W0 c a w hr ⟨hrow,hb⟩
 have hx':=zkN hr x
 rw [hx] at hx'
 have hy':=zkN hr y
 obtain ⟨hn,hv⟩:=zmD hy hy'
 obtain ⟨hll,hlv⟩:=zpa (w:=w) (c:=c) hl
 have hf:=zoK hl
 generalize hxv:a.eval x=xv at hx'
 generalize hyv:a.eval y=yv at hn hv
 cases hx' with
 | pe hid =>
  obtain ⟨g1,g0,g2,g3⟩:Holds w c (c.loc id) (.arr tt es rows):=(hr.sit.own id _ ho).2
  have hlt:i < rows.length:=by
   rcases qj i rows.length with h1 | h1
   ·exact h1
   ·rw [List.getElem?_eq_none h1] at hrow;cases hrow
  rw [List.getElem?_eq_getElem hlt] at hrow
  cases hrow
  have hes:(rows[i]).length=es:=g0 _ (qa hlt)
  have hpl:(put (rows[i]) off ls).length=es:=by rw [zlD _ _ _ (by omega)];exact hes
  have hlen:yv.cells.toList.length=e.size:=by simp [hn,hk]
  have hin:∀ j,j < e.size→i * es+off+j < (c.loc id).n:=λ j hj=>by
   have:=zk1 (es:=es) (j:=off+j) hlt (by omega)
   omega
  have hthere:∀ j,j < e.size→∃ u,w.cell? ⟨(c.loc id).b,(c.loc id).base+(i * es+off)+j,none⟩=some u∧w.frozen? ⟨(c.loc id).b,(c.loc id).base+(i * es+off)+j,none⟩=false:=by
   intro j hj
   obtain ⟨u,hu,hz⟩:=g2 (i * es+off+j) (hin j hj)
   rw [← qb] at hu hz
   exact ⟨u,hu,hz⟩
  have hone:∀ u∈yv.cells.toList,u.oneCell'=true:=by
   intro u hu
   obtain ⟨j,hj,rfl⟩:=qo hu
   have hj2:j < yv.cells.size:=by simpa using hj
   exact (znl (by rw [qr] at hf;exact hf _ (qa (by omega))) (hv j (by omega) _ (by simp [hj2]))).1
  have hrun:=zov (P:=P) h (w:=w) (b:=(c.loc id).b) (o:=(c.loc id).base+(i * es+off)) (v:=yv) (by omega) hthere hone
  have hkeep:=keep_setCells w (c.loc id).b ((c.loc id).base+(i * es+off)) yv.cells.toList
  have hcells:∀ j (hj:j < e.size),(w.setCells (c.loc id).b ((c.loc id).base+(i * es+off)) yv.cells.toList).cell? ⟨(c.loc id).b,(c.loc id).base+(i * es+off)+j,none⟩=yv.cells[j]?:=by
   intro j hj
   rw [World.cell?_setCells_in (c.loc id).b yv.cells.toList _ w (λ i hi=>by obtain ⟨u,hu,_⟩:=hthere i (by omega);simp [hu]) j (by omega)]
   have:j < yv.cells.size:=by omega
   simp [this]
  have hsub:∀ b j,b < w.heap.size→(b=(c.loc id).b∧(c.loc id).base+(i * es+off)≤j∧j < (c.loc id).base+(i * es+off)+yv.cells.toList.length)→inR (c.loc id) b j:=by
   rintro b j _ ⟨rfl,h1,h2⟩
   have:=hin (j - ((c.loc id).base+(i * es+off))) (by omega)
   exact .inl ⟨rfl,by omega⟩
  have hsame:=hr.sit.same hkeep λ b j hb d=>⟨id,_,ho,hsub b j hb d⟩
  obtain ⟨hsit,_⟩:=hr.sit.upd (o':=.arr (tt || tu) es (rows.set i (put (rows[i]) off ls))) hkeep ho hsub (by
   refine ⟨by rw [qL];exact g1,zwz g0 hpl,λ j hj=>?_,λ p q hp hq u hu=>?_⟩
   ·by_cases hin':i * es+off≤j∧j < i * es+off+e.size
    ·have:=hcells (j - (i * es+off)) (by omega)
     rw [show (c.loc id).base+(i * es+off)+(j - (i * es+off))=(c.loc id).base+j by omega] at this
     have hlt:j - (i * es+off) < yv.cells.size:=by omega
     refine ⟨yv.cells[j - (i * es+off)],by rw [this];simp [hlt],?_⟩
     rw [World.frozen?_setCells]
     exact (g2 j hj).elim λ _ h=>h.2
    ·obtain ⟨u,hu,hz⟩:=g2 j hj
     refine ⟨u,?_,by rw [World.frozen?_setCells];exact hz⟩
     rw [World.cell?_setCells_out _ _ _ _ _ (λ _ _=>by simp only;omega)]
     exact hu
   ·have hp2:p < rows.length:=by simpa using hp
    have hq':q < es:=by rw [← zwz g0 hpl _ (qa (by simpa using hp))];exact hq
    by_cases hpi:p=i
    ·subst hpi
     have hget:(rows.set p (put (rows[p]) off ls))[p]'(by simpa using hp)=put (rows[p]) off ls:=by simp
     have hq2:q < (put (rows[p]) off ls).length:=by rw [hpl];exact hq'
     have e1:((rows.set p (put (rows[p]) off ls))[p]'(by simpa using hp))[q]'hq=(put (rows[p]) off ls)[q]'hq2:=by
      apply Option.some.inj
      rw [← List.getElem?_eq_getElem,← List.getElem?_eq_getElem,hget]
     rw [e1]
     by_cases hin':off≤q∧q < off+e.size
     ·have hc:=hcells (q - off) (by omega)
      rw [show (c.loc id).base+(p * es+off)+(q - off)=(c.loc id).base+(p * es+q) by omega] at hc
      rw [hc] at hu
      have he:(put (rows[p]) off ls)[q]'hq2=ls[q - off]'(by omega):=by
       have:=ztC (rows[p]) off ls (by omega) (q - off) (by omega) (by rw [zlD _ _ _ (by omega)];omega)
       simpa [show off+(q - off)=q by omega] using this
      rw [he]
      exact (hlv (q - off) (by omega) (by omega) u (hv (q - off) (by omega) u hu)).mono (λ b k x=>(Ctx.fs_or x).2) (λ b k x=>hsame.fs _ b k x)
     ·rw [World.cell?_setCells_out _ _ _ _ _ (λ _ _=>by simp only;omega)] at hu
      rw [zrn (rows[p]) off ls (by omega) q (by omega) (by omega)]
      exact (g3 p q hp2 (by omega) u hu).mono (λ b k x=>(Ctx.fs_or x).1) (λ b k x=>hsame.fs _ b k x)
    ·have e1:((rows.set i (put (rows[i]) off ls))[p]'(by simpa using hp))[q]'hq=(rows[p])[q]'(by rw [g0 _ (qa hp2)];exact hq'):=by
      apply Option.some.inj
      rw [← List.getElem?_eq_getElem,← List.getElem?_eq_getElem,List.getElem_set_ne (Ne.symm hpi)]
     rw [e1]
     have hne:¬ (i * es+off≤p * es+q∧p * es+q < i * es+off+e.size):=by
      rintro ⟨h1,h2⟩
      rcases Nat.lt_or_gt_of_ne hpi with h3 | h3
      ·have:(p+1) * es≤i * es:=qf es h3
       rw [qd] at this;omega
      ·have:(i+1) * es≤p * es:=qf es h3
       rw [qd] at this;omega
     rw [World.cell?_setCells_out _ _ _ _ _ (λ _ _=>by simp only;omega)] at hu
     exact (g3 p q hp2 (by rw [g0 _ (qa hp2)];exact hq') u hu).mono (λ b k x=>(Ctx.fs_or x).1) (λ b k x=>hsame.fs _ b k x))
  refine ⟨.skip,_,c,undef,λ o ho'=>?_,.inr ⟨rfl,rfl⟩,.refl c,hr.nx,?_,hsame,.un _⟩
  ·unfold execOp
   rw [ho']
   simp only [hxv,hyv,Instr.storeAt,Instr.sureAddr,Sem.run_bind,Sem.run_pure,Result.andThen_ok]
   rw [hrun]
   rfl
  ·show Sit w0 W0 c (hp ((id,_) :: s.H)) _
   rw [zkD]
   exact hsit
end
end Go.TL
namespace Go.TL
open Go
abbrev HL:=List (Nat×Option (Bool×Ob))
def rng (loc:Nat→Loc) (H:zkO):zkF:=λ b k=>∃ id o,H id=some o∧inR (loc id) b k
def zm6 (F:zkF) (loc:Nat→Loc) (m:Nat):Ctx:=⟨F,λ _ _=>False,loc,m⟩
def zB7 (P:Program) (f:FuncId) (args:List LV) (H0:HL) (m:Nat) (res:LV) (H1:HL) (nxr:Nat):Prop :=
 ∀ (w:World) (F:zkF) (loc:Nat→Loc) (vs:Array Value),Sit w (frm (rng loc (hp H0))) (zm6 F loc m) (hp H0) w→vs.size=args.length →
  (∀ j (hj:j < args.length),∃ v,vs[j]?=some v∧Cv w (zm6 F loc m) (args[j]) v) →
  Calls P f vs w λ e w'=>∃ v c',e=.returned v∧(zm6 F loc m).Le c'∧c'.nx=nxr∧Sit w (frm (rng loc (hp H0))) c' (hp H1) w'∧Cv w' c' res v
def pos (ids:List Nat) (id:Nat):Option Nat :=
 match ids with
 | []=>none
 | i :: r=>if id=i then some 0 else (pos r id).map (·+1)
theorem ztE {ids:List Nat} {id k:Nat} (h:pos ids id=some k):ids[k]?=some id:=by
 induction ids generalizing k with
 | nil=>cases h
 | cons i r ih =>
  unfold pos at h
  split at h
  ·rename_i e;cases h;simp [e]
  ·cases hp:pos r id with
   | none=>rw [hp] at h;cases h
   | some j=>rw [hp] at h;cases h;simpa using ih hp
def znn (H:zkO):LV→Option Leaf
 | .lf _ l=>some l
 | .nl=>some (.sl [])
 | .os id es lo len _ _=>match H id with
  | some (_,.arr _ es' rows)=>if es'=es∧lo+len≤rows.length then some (.sl ((rows.drop lo).take len)) else none
  | some (_,.deep ss rows)=>if ss.length=es∧lo+len≤rows.length then some (.sl ((rows.drop lo).take len)) else none
  | _=>none
 | _=>none
def zlV (H:zkO):List LV→Option (List Leaf)
 | []=>some []
 | lv :: r=>match znn H lv,zlV H r with
  | some l,some ls=>some (l :: ls)
  | _,_=>none
def zmj (ids:List Nat) (H:zkO):LV→Option LV
 | .un=>some .un
 | .lf _ (.sc v)=>some (.lf false (.sc v))
 | .lf _ (.sl rows)=>some (.lf true (.sl rows))
 | .nl=>some .nl
 | .os id es lo len mc ex=>match pos ids id with
  | some k=>some (.os k es lo len mc ex)
  | none=>match H id with
   | some (_,.arr _ es' rows)=>if es'=es∧lo+len≤rows.length then some (.lf true (.sl ((rows.drop lo).take len))) else none
   | some (_,.deep ss rows)=>if ss.length=es∧lo+len≤rows.length then some (.lf true (.sl ((rows.drop lo).take len))) else none
   | _=>none
 | .pb id off=>match pos ids id with
  | some k=>some (.pb k off)
  | none=>match H id with
   | some (_,.box ls)=>match zlV H (ls.drop off) with
    | some l=>some (.ra true l)
    | none=>none
   | _=>none
 | .pe id es i off=>match pos ids id with
  | some k=>some (.pe k es i off)
  | none=>match H id with
   | some (_,.arr _ es' rows)=>if es'=es∧i < rows.length then some (.ra true ((rows.getD i []).drop off)) else none
   | some (_,.deep ss rows)=>if ss.length=es∧i < rows.length then some (.ra true ((rows.getD i []).drop off)) else none
   | some (_,.foc ss _ p ks)=>if ss.length=es∧i=p then (match zlV H (ks.drop off) with
    | some l=>some (.ra true l)
    | none=>none) else none
   | _=>none
 | .ra _ ls=>some (.ra true ls)
 | .fn f []=>some (.fn f [])
 | _=>none
def zl9 (ids:List Nat) (H:zkO):List LV→Option (List LV)
 | []=>some []
 | lv :: r=>match zmj ids H lv,zl9 ids H r with
  | some x,some y=>some (x :: y)
  | _,_=>none
def conv (ids:List Nat) (H:zkO):LV→Option LV
 | .ag ls=>(zl9 ids H ls).map .ag
 | .fn f ls=>(zl9 ids H ls).map (.fn f)
 | lv=>zmj ids H lv
def zlW (ids:List Nat) (H:zkO):List LV→Option (List LV)
 | []=>some []
 | lv :: r=>match conv ids H lv,zlW ids H r with
  | some x,some y=>some (x :: y)
  | _,_=>none
def zoD:LV→List Nat
 | .os id ..=>[id]
 | _=>[]
def zmk (ids:List Nat) (H:zkO):LV→List Nat
 | .os id ..=>match pos ids id with
  | some _=>[]
  | none=>[id]
 | .pb id off=>match pos ids id with
  | some _=>[]
  | none=>id :: (match H id with
   | some (_,.box ls)=>(ls.drop off).flatMap zoD
   | _=>[])
 | .pe id _ _ off=>match pos ids id with
  | some _=>[]
  | none=>id :: (match H id with
   | some (_,.foc _ _ _ ks)=>(ks.drop off).flatMap zoD
   | _=>[])
 | _=>[]
def zuo (ids:List Nat) (H:zkO):LV→List Nat
 | .ag ls | .fn _ ls=>ls.flatMap (zmk ids H)
 | lv=>zmk ids H lv
def zml (ids:List Nat) (H:zkO):Ob→Option Ob
 | .box ls=>(zl9 ids H ls).map .box
 | .arr _ es rows=>some (.arr true es rows)
 | .deep ss rows=>some (.deep ss rows)
 | .foc ss rows p ks=>(zl9 ids H ks).map (.foc ss rows p)
def zro (ids:List Nat) (H:zkO):Ob→List Nat
 | .box ls=>ls.flatMap (zmk ids H)
 | .foc _ _ _ ks=>ks.flatMap (zmk ids H)
 | _=>[]
def zmv (ids:List Nat) (H:zkO):Nat→List Nat→Option HL
 | _,[]=>some []
 | k,id :: r=>match H id,zmv ids H (k+1) r with
  | some (_,o),some l=>match zml ids H o with
   | some o'=>some ((k,some (false,o')) :: l)
   | none=>none
  | _,_=>none
def zli (ids:List Nat) (H:zkO) (args:List LV):List Nat :=
 args.flatMap (zuo ids H)++ids.flatMap λ id=>match H id with
  | some (_,o)=>zro ids H o
  | none=>[]
def zm9 (ids:List Nat) (nx:Nat):LV→LV
 | .os k es lo len mc ex=>match ids[k]? with
  | some id=>.os id es lo len mc ex
  | none=>.os (nx+(k - ids.length)) es lo len mc ex
 | .pb k off=>match ids[k]? with
  | some id=>.pb id off
  | none=>.pb (nx+(k - ids.length)) off
 | .lf t l=>.lf t l
 | .nl=>.nl
 | .ra t ls=>.ra t ls
 | .fn f []=>.fn f []
 | _=>.un
def zpR (ids:List Nat) (nx:Nat):LV→LV
 | .ag ls=>.ag (ls.map (zm9 ids nx))
 | lv=>zm9 ids nx lv
def zpz (ids:List Nat) (nx:Nat):LV→LV
 | .tu ls=>.tu (ls.map (zpR ids nx))
 | lv=>zpR ids nx lv
def zow (ids:List Nat) (nx:Nat):Ob→Ob
 | .box ls=>.box (ls.map (zm9 ids nx))
 | .arr t es rows=>.arr t es rows
 | .deep ss rows=>.deep ss rows
 | .foc ss rows i ks=>.foc ss rows i (ks.map (zm9 ids nx))
def zpr:LV→Bool
 | .lf true (.sl _) | .ra true _=>false
 | _=>true
def zwA:LV→Bool
 | .ag ls=>ls.all zpr
 | lv=>zpr lv
def zvE:LV→Bool
 | .tu ls=>ls.all zwA
 | lv=>zwA lv
def zmw:Ob→Bool
 | .box ls=>ls.all zpr
 | .arr t _ _=>!t
 | .deep _ _=>true
 | .foc _ _ _ ks=>ks.all zpr
def num (ids:List Nat) (nx k:Nat):Nat :=
 match ids[k]? with
 | some id=>id
 | none=>nx+(k - ids.length)
def znD (H:zkO):List Nat→Bool
 | []=>true
 | id :: r=>(match H id with | some (b,_)=>b | none=>true) && znD H r
theorem zqp {H:zkO}:∀ {l:List Nat},znD H l=true→∀ id∈l,∀ o,H id=some o→o.1=true
 | [],_,id,h,_,_=>by cases h
 | i :: r,h,id,hm,o,ho=>by
  unfold znD at h
  rw [qcf] at h
  rcases List.mem_cons.1 hm with rfl | hm
  ·have:=h.1;rw [ho] at this;exact this
  ·exact zqp h.2 id hm o ho
def zoL (ids:List Nat) (H:zkO) (q:Bool):Ob→Bool
 | .box _ | .arr _ _ _=>q
 | _=>q && znD H ids
def zmX (ids:List Nat) (H:zkO) (nx k:Nat) (x:Option (Bool×Ob)):Option (Bool×Ob) :=
 match ids[k]? with
 | some id=>x.bind λ o=>(H id).map λ q=>(zoL ids H q.1 o.2,zow ids nx o.2)
 | none=>x.map λ o=>(o.1 || znD H ids,zow ids nx o.2)
def zl4 (ids:List Nat) (H:zkO) (nx:Nat) (H1:HL) (old:HL):HL :=
 H1.map (λ p=>(num ids nx p.1,zmX ids H nx p.1 p.2))++old
inductive Fit1:LV→LV→Prop
 | same (a:LV):Fit1 a a
 | nil (t:Bool):Fit1 .nl (.lf t (.sl []))
 | un (a:LV):Fit1 a .un
theorem Fit1.ok {w:World} {c:Ctx} {a b:LV} {v:Value} (h:Fit1 a b) (hc:Cv w c a v):Cv w c b v:=by
 cases h with
 | same=>exact hc
 | nil t=>cases hc with
  | nl=>exact .lf .nil
 | un=>exact .un _
def FitL:List LV→List LV→Prop
 | [],[]=>True
 | a :: r,b :: q=>Fit1 a b∧FitL r q
 | _,_=>False
def Fit:LV→LV→Prop
 | .ag l,.ag k=>FitL l k
 | .fn f l,.fn g k=>f=g∧FitL l k
 | a,b=>Fit1 a b
theorem zrE {w:World} {c:Ctx}:∀ {l k:List LV},FitL l k→l.length=k.length∧∀ j (hj:j < l.length) (hj':j < k.length) v,Cv w c (l[j]) v→Cv w c (k[j]) v
 | [],[],_=>⟨rfl,λ j hj=>by simp at hj⟩
 | a :: r,b :: q,h=>by
  obtain ⟨h1,h2⟩:=h
  obtain ⟨hn,ih⟩:=zrE (w:=w) (c:=c) h2
  refine ⟨by simp [hn],λ j hj hj' v hv=>?_⟩
  cases j with
  | zero=>exact h1.ok hv
  | succ j=>exact ih j (by simpa using hj) (by simpa using hj') v hv
 | [],_ :: _,h=>h.elim
 | _ :: _,[],h=>h.elim
theorem Fit.ok {w:World} {c:Ctx} {a b:LV} {v:Value} (h:Fit a b) (hc:Cv w c a v):Cv w c b v:=by
 unfold Fit at h
 split at h
 ·obtain ⟨hn,hg⟩:=zrE (w:=w) (c:=c) h
  cases hc with
  | ag cs h1 h2 h3=>exact .ag cs (by omega) (λ j hj=>h2 j (by omega)) λ j hj=>hg j (by omega) hj _ (h3 j (by omega))
 ·obtain ⟨rfl,h⟩:=h
  obtain ⟨hn,hg⟩:=zrE (w:=w) (c:=c) h
  cases hc with
  | fn cs h1 h2 h3=>exact .fn cs (by omega) (λ j hj=>h2 j (by omega)) λ j hj=>hg j (by omega) hj _ (h3 j (by omega))
 ·exact h.ok hc
def FitAll:List LV→List LV→Prop
 | [],[]=>True
 | a :: r,b :: q=>Fit a b∧FitAll r q
 | _,_=>False
theorem zrF {w:World} {c:Ctx}:∀ {l k:List LV},FitAll l k→l.length=k.length∧∀ j (hj:j < l.length) (hj':j < k.length) v,Cv w c (l[j]) v→Cv w c (k[j]) v
 | [],[],_=>⟨rfl,λ j hj=>by simp at hj⟩
 | a :: r,b :: q,h=>by
  obtain ⟨h1,h2⟩:=h
  obtain ⟨hn,ih⟩:=zrF (w:=w) (c:=c) h2
  refine ⟨by simp [hn],λ j hj hj' v hv=>?_⟩
  cases j with
  | zero=>exact h1.ok hv
  | succ j=>exact ih j (by simpa using hj) (by simpa using hj') v hv
 | [],_ :: _,h=>h.elim
 | _ :: _,[],h=>h.elim
def zkE (c:Ctx) (ids snaps:List Nat):Ctx :=
 zm6 (λ b k=>c.F b k∨c.G b k∨∃ id,id∈snaps∧inR (c.loc id) b k) (λ k=>c.loc (ids.getD k 0)) ids.length
theorem zvF {w0 w:World} {W0:Fr} {c:Ctx} {H:zkO} (s:Sit w0 W0 c H w) {ids snaps:List Nat} {id es lo len mc:Nat} {ex:Bool} {v:Value} {l:Leaf} (h:znn H (.os id es lo len mc ex)=some l) (hsn:id∈snaps)
  (hc:Cv w c (.os id es lo len mc ex) v):RepL w ((zkE c ids snaps).fs true) v l:=by
 have hfs:∀ (t:Bool) b k,c.fs t b k→(zkE c ids snaps).fs true b k:=by
  intro t b k x
  rcases x with x | ⟨_,x⟩
  ·exact .inr ⟨rfl,.inr (.inl x)⟩
  ·exact .inr ⟨rfl,.inl x⟩
 cases hc with
 | os hid hl hm hx ha hn =>
  rename_i cap a
  simp only [znn] at h
  split at h
  ·rename_i fr t es' rows ho
   split at h
   ·rename_i hcond
    obtain ⟨rfl,hlen⟩:=hcond
    cases h
    obtain ⟨g1,g0,g2,g3⟩:Holds w c (c.loc id) (.arr t es' rows):=(s.own id _ ho).2
    by_cases hz:len=0
    ·subst hz
     rw [qbi]
     exact .nil
    ·rcases ha with h0 | rfl
     ·omega
     have hrows:((rows.drop lo).take len).length=len:=by simp;omega
     have:=@RepL.sl w ((zkE c ids snaps).fs true) (c.loc id).b ((c.loc id).base+lo * es') cap es' ((rows.drop lo).take len)
      (λ i j=>(w.cell? ⟨(c.loc id).b,(c.loc id).base+lo * es'+(i * es'+j),none⟩).getD undef)
      (λ r hr=>g0 r (qz (qba hr))) (by omega)
      (λ i j hi hj=>by
       have h1:=zk1 (es:=es') (i:=lo+i) (j:=j) (n:=rows.length) (by omega) hj
       rw [qd] at h1
       refine ⟨.inr ⟨rfl,.inr (.inr ⟨id,hsn,.inl ⟨rfl,by omega⟩⟩)⟩,?_⟩
       obtain ⟨u,hu,_⟩:=g2 (lo * es'+(i * es'+j)) (by omega)
       rw [← qb] at hu
       rw [hu];rfl)
      (λ i j hi hj=>by
       have hi':lo+i < rows.length:=by omega
       have hj':j < es':=by rw [← g0 _ (qa hi')];simpa using hj
       have h1:=zk1 (es:=es') (i:=lo+i) (j:=j) (n:=rows.length) hi' hj'
       rw [qd] at h1
       obtain ⟨u,hu,_⟩:=g2 (lo * es'+(i * es'+j)) (by omega)
       have h3:=g3 (lo+i) j hi' (by rw [g0 _ (qa hi')];exact hj') u (by rw [qd,qb];exact hu)
       rw [← qb] at hu
       simp only [qm,qh,hu,qt]
       exact h3.sub (hfs t))
     rw [hrows] at this
     exact this
   ·cases h
  ·rename_i fr ss rows ho
   split at h
   ·rename_i hcond
    obtain ⟨rfl,hlen⟩:=hcond
    cases h
    obtain ⟨g1,g0,g2,B,hB,hd,g3⟩:Holds w c (c.loc id) (.deep ss rows):=(s.own id _ ho).2
    by_cases hz:len=0
    ·subst hz
     rw [qbi]
     exact .nil
    ·rcases ha with h0 | rfl
     ·omega
     have hrows:((rows.drop lo).take len).length=len:=by simp;omega
     have:=@RepL.sl w ((zkE c ids snaps).fs true) (c.loc id).b ((c.loc id).base+lo * ss.length) cap ss.length ((rows.drop lo).take len)
      (λ i j=>(w.cell? ⟨(c.loc id).b,(c.loc id).base+lo * ss.length+(i * ss.length+j),none⟩).getD undef)
      (λ r hr=>g0 r (qz (qba hr))) (by omega)
      (λ i j hi hj=>by
       have h1:=zk1 (es:=ss.length) (i:=lo+i) (j:=j) (n:=rows.length) (by omega) hj
       rw [qd] at h1
       refine ⟨.inr ⟨rfl,.inr (.inr ⟨id,hsn,.inl ⟨rfl,by omega⟩⟩)⟩,?_⟩
       obtain ⟨u,hu,_⟩:=g2 (lo * ss.length+(i * ss.length+j)) (by omega)
       rw [← qb] at hu
       rw [hu];rfl)
      (λ i j hi hj=>by
       have hi':lo+i < rows.length:=by omega
       have hj':j < ss.length:=by rw [← g0 _ (qa hi')];simpa using hj
       have h1:=zk1 (es:=ss.length) (i:=lo+i) (j:=j) (n:=rows.length) hi' hj'
       rw [qd] at h1
       obtain ⟨u,hu,_⟩:=g2 (lo * ss.length+(i * ss.length+j)) (by omega)
       have h3:=g3 (lo+i) j hi' (by rw [g0 _ (qa hi')];exact hj') hj' u (by rw [qd,qb];exact hu)
       rw [← qb] at hu
       simp only [qm,qh,hu,qt]
       exact h3.rep λ b k hb=>.inr ⟨rfl,.inr (.inr ⟨id,hsn,.inr (hB _ _ _ hb).1⟩)⟩)
     rw [hrows] at this
     exact this
   ·cases h
  ·cases h
theorem zup {w0 w:World} {W0:Fr} {c:Ctx} {H:zkO} (s:Sit w0 W0 c H w) {ids snaps:List Nat} {lv:LV} {v:Value} {l:Leaf} (h:znn H lv=some l) (hsn:∀ i∈zoD lv,i∈snaps)
  (hc:Cv w c lv v):RepL w ((zkE c ids snaps).fs true) v l:=by
 cases lv with
 | lf t l' =>
  cases h
  cases hc with
  | lf hr =>
   refine hr.sub λ b k x=>?_
   rcases x with x | ⟨_,x⟩
   ·exact .inr ⟨rfl,.inr (.inl x)⟩
   ·exact .inr ⟨rfl,.inl x⟩
 | nl =>
  cases h
  cases hc with
  | nl a=>exact .nil
 | os id es lo len mc ex=>exact zvF s h (hsn id (by simp [zoD])) hc
 | un=>cases h
 | pb a b=>cases h
 | pe a b c d=>cases h
 | ra a b=>cases h
 | ag a=>cases h
 | tu a=>cases h
 | fn a b=>cases h
theorem zoM {H:zkO}:∀ {ks:List LV} {ls:List Leaf},zlV H ks=some ls→ls.length=ks.length∧∀ j (hj:j < ks.length) (hj':j < ls.length),znn H (ks[j])=some (ls[j])
 | [],ls,h=>by cases h;exact ⟨rfl,λ j hj=>by simp at hj⟩
 | lv :: r,ls,h=>by
  unfold zlV at h
  split at h
  ·rename_i l ls' h1 h2
   cases h
   obtain ⟨g1,g2⟩:=zoM h2
   refine ⟨by simp [g1],λ j hj hj'=>?_⟩
   cases j with
   | zero=>exact h1
   | succ j=>exact g2 j (by simpa using hj) (by simpa using hj')
  ·cases h
theorem zmE {w0 w:World} {W0:Fr} {c:Ctx} {H:zkO} (s:Sit w0 W0 c H w) {ids snaps:List Nat} {lv lv':LV} {v:Value} (h:zmj ids H lv=some lv') (hs:∀ i∈zmk ids H lv,i∈snaps) (hc:Cv w c lv v) :
  Cv w (zkE c ids snaps) lv' v:=by
 have hfs:∀ (t:Bool) b k,c.fs t b k→(zkE c ids snaps).fs true b k:=by
  intro t b k x
  rcases x with x | ⟨_,x⟩
  ·exact .inr ⟨rfl,.inr (.inl x)⟩
  ·exact .inr ⟨rfl,.inl x⟩
 have hloc:∀ {id k:Nat},pos ids id=some k→(zkE c ids snaps).loc k=c.loc id∧k < (zkE c ids snaps).nx:=by
  intro id k hk
  have hg:=ztE hk
  refine ⟨?_,?_⟩
  ·show c.loc (ids.getD k 0)=_
   rw [List.getD,hg];rfl
  ·show k < ids.length
   rcases qj k ids.length with h1 | h1
   ·exact h1
   ·rw [List.getElem?_eq_none h1] at hg;cases hg
 cases hc with
 | un v=>cases h;exact .un _
 | lf hr =>
  rename_i t l
  cases l with
  | sc u=>cases h;cases hr with
   | sc hu=>exact .lf (.sc hu)
  | sl rows=>cases h;exact .lf (hr.sub (hfs t))
  | raw u=>cases h
 | nl a=>cases h;exact .nl a
 | os hid hl hm hx ha hn =>
  rename_i id es lo len mc cap ex a
  simp only [zmj] at h
  split at h
  ·rename_i k hk
   cases h
   obtain ⟨e1,e2⟩:=hloc hk
   exact .os e2 hl hm hx (by rw [e1];exact ha) (by rw [e1];exact hn)
  ·rename_i hk
   split at h
   ·rename_i fr t es' rows ho
    split at h
    ·rename_i hcond
     obtain ⟨rfl,hlen⟩:=hcond
     cases h
     exact .lf (zvF (es:=es') (lo:=lo) (len:=len) s (by simp only [znn,ho];exact if_pos ⟨trivial,hlen⟩) (hs id (by simp [zmk,hk])) (.os hid hl hm hx ha hn))
    ·cases h
   ·rename_i fr ss rows ho
    split at h
    ·rename_i hcond
     obtain ⟨rfl,hlen⟩:=hcond
     cases h
     exact .lf (zvF (lo:=lo) (len:=len) s (by simp only [znn,ho];exact if_pos ⟨trivial,hlen⟩) (hs id (by simp [zmk,hk])) (.os hid hl hm hx ha hn))
    ·cases h
   ·cases h
 | pb hid =>
  rename_i id off
  simp only [zmj] at h
  split at h
  ·rename_i k hk
   cases h
   obtain ⟨e1,e2⟩:=hloc hk
   have:=@Cv.pb w (zkE c ids snaps) k off e2
   rw [e1] at this
   exact this
  ·rename_i hk
   split at h
   ·rename_i fr ls ho
    split at h
    ·rename_i l hl
     cases h
     have hsn:id∈snaps:=hs id (by simp [zmk,hk])
     have hsn2:∀ i∈(ls.drop off).flatMap zoD,i∈snaps:=λ i hi=>hs i (by simp only [zmk,hk,ho];exact qy _ hi)
     obtain ⟨g1,g2,g3⟩:Holds w c (c.loc id) (.box ls):=(s.own id _ ho).2
     obtain ⟨hn,hlv⟩:=zoM hl
     have hlen:l.length=ls.length - off:=by rw [hn];simp
     refine .ra (λ j=>(w.cell? ⟨(c.loc id).b,(c.loc id).base+off+j,none⟩).getD undef) (λ j hj=>?_) λ j hj=>?_
     ·refine ⟨.inr ⟨rfl,.inr (.inr ⟨id,hsn,.inl ⟨rfl,by omega⟩⟩)⟩,?_⟩
      obtain ⟨u,hu,_⟩:=g2 (off+j) (by omega)
      rw [← qb] at hu
      rw [hu];rfl
     ·obtain ⟨u,hu,_⟩:=g2 (off+j) (by omega)
      have h3:=g3 (off+j) (by omega) u hu
      rw [← qb] at hu
      simp only [hu,qt]
      have hjd:j < (ls.drop off).length:=by simp;omega
      have h4:=hlv j hjd hj
      have h5:∀ i∈zoD ((ls.drop off)[j]),i∈snaps:=λ i hi=>hsn2 i (List.mem_flatMap.2 ⟨_,qa _,hi⟩)
      rw [qh] at h4 h5
      exact zup s h4 h5 h3
    ·cases h
   ·cases h
 | pe hid =>
  rename_i id es i off
  simp only [zmj] at h
  split at h
  ·rename_i k hk
   cases h
   obtain ⟨e1,e2⟩:=hloc hk
   rw [← e1]
   exact .pe e2
  ·rename_i hk
   have hsn:id∈snaps:=hs id (by simp [zmk,hk])
   split at h
   ·rename_i fr t es' rows ho
    split at h
    ·rename_i hcond
     obtain ⟨rfl,hi⟩:=hcond
     cases h
     obtain ⟨g1,g0,g2,g3⟩:Holds w c (c.loc id) (.arr t es' rows):=(s.own id _ ho).2
     have hrow:rows.getD i []=rows[i]:=by simp [List.getD,hi]
     have hle:=g0 _ (qa hi)
     rw [hrow]
     refine .ra (λ j=>(w.cell? ⟨(c.loc id).b,(c.loc id).base+(i * es'+off)+j,none⟩).getD undef) (λ j hj=>?_) λ j hj=>?_
     ·rw [qbd] at hj
      have h1:=zk1 (es:=es') (i:=i) (j:=off+j) (n:=rows.length) hi (by omega)
      refine ⟨.inr ⟨rfl,.inr (.inr ⟨id,hsn,.inl ⟨rfl,by omega⟩⟩)⟩,?_⟩
      obtain ⟨u,hu,_⟩:=g2 (i * es'+(off+j)) (by omega)
      rw [show (c.loc id).base+(i * es'+off)+j=(c.loc id).base+(i * es'+(off+j)) by omega,hu];rfl
     ·have hj':=hj
      rw [qbd] at hj'
      have h1:=zk1 (es:=es') (i:=i) (j:=off+j) (n:=rows.length) hi (by omega)
      obtain ⟨u,hu,_⟩:=g2 (i * es'+(off+j)) (by omega)
      have h3:=g3 i (off+j) hi (by omega) u hu
      simp only [show (c.loc id).base+(i * es'+off)+j=(c.loc id).base+(i * es'+(off+j)) by omega,hu,qt,qh]
      exact h3.sub (hfs t)
    ·cases h
   ·rename_i fr ss rows ho
    split at h
    ·rename_i hcond
     obtain ⟨rfl,hi⟩:=hcond
     cases h
     obtain ⟨g1,g0,g2,B,hB,hd,g3⟩:Holds w c (c.loc id) (.deep ss rows):=(s.own id _ ho).2
     have hrow:rows.getD i []=rows[i]:=by simp [List.getD,hi]
     have hle:=g0 _ (qa hi)
     rw [hrow]
     refine .ra (λ j=>(w.cell? ⟨(c.loc id).b,(c.loc id).base+(i * ss.length+off)+j,none⟩).getD undef) (λ j hj=>?_) λ j hj=>?_
     ·rw [qbd] at hj
      have h1:=zk1 (es:=ss.length) (i:=i) (j:=off+j) (n:=rows.length) hi (by omega)
      refine ⟨.inr ⟨rfl,.inr (.inr ⟨id,hsn,.inl ⟨rfl,by omega⟩⟩)⟩,?_⟩
      obtain ⟨u,hu,_⟩:=g2 (i * ss.length+(off+j)) (by omega)
      rw [show (c.loc id).base+(i * ss.length+off)+j=(c.loc id).base+(i * ss.length+(off+j)) by omega,hu];rfl
     ·have hj':=hj
      rw [qbd] at hj'
      have h1:=zk1 (es:=ss.length) (i:=i) (j:=off+j) (n:=rows.length) hi (by omega)
      obtain ⟨u,hu,_⟩:=g2 (i * ss.length+(off+j)) (by omega)
      have h3:=g3 i (off+j) hi (by omega) (by omega) u hu
      simp only [show (c.loc id).base+(i * ss.length+off)+j=(c.loc id).base+(i * ss.length+(off+j)) by omega,hu,qt,qh]
      exact h3.rep λ b k hb=>.inr ⟨rfl,.inr (.inr ⟨id,hsn,.inr (hB _ _ _ hb).1⟩)⟩
    ·cases h
   ·rename_i fr ss rows p ks ho
    split at h
    ·rename_i hcond
     obtain ⟨rfl,rfl⟩:=hcond
     split at h
     ·rename_i l hl
      cases h
      have hsn2:∀ i∈(ks.drop off).flatMap zoD,i∈snaps:=λ i hi=>hs i (by simp only [zmk,hk,ho];exact qy _ hi)
      obtain ⟨g1,g0,g2,_,g4,g5,g6⟩:Holds w c (c.loc id) (.foc ss rows i ks):=(s.own id _ ho).2
      obtain ⟨hn,hlv⟩:=zoM hl
      have hlen:l.length=ks.length - off:=by rw [hn];simp
      refine .ra (λ j=>(w.cell? ⟨(c.loc id).b,(c.loc id).base+(i * ss.length+off)+j,none⟩).getD undef) (λ j hj=>?_) λ j hj=>?_
      ·have h1:=zk1 (es:=ss.length) (i:=i) (j:=off+j) (n:=rows.length) g4 (by omega)
       refine ⟨.inr ⟨rfl,.inr (.inr ⟨id,hsn,.inl ⟨rfl,by omega⟩⟩)⟩,?_⟩
       obtain ⟨u,hu,_⟩:=g2 (i * ss.length+(off+j)) (by omega)
       rw [show (c.loc id).base+(i * ss.length+off)+j=(c.loc id).base+(i * ss.length+(off+j)) by omega,hu];rfl
      ·have h1:=zk1 (es:=ss.length) (i:=i) (j:=off+j) (n:=rows.length) g4 (by omega)
       obtain ⟨u,hu,_⟩:=g2 (i * ss.length+(off+j)) (by omega)
       have h3:=g6 (off+j) (by omega) u hu
       simp only [show (c.loc id).base+(i * ss.length+off)+j=(c.loc id).base+(i * ss.length+(off+j)) by omega,hu,qt]
       have hjd:j < (ks.drop off).length:=by simp;omega
       have h4:=hlv j hjd hj
       have h5:∀ i∈zoD ((ks.drop off)[j]),i∈snaps:=λ i hi=>hsn2 i (List.mem_flatMap.2 ⟨_,qa _,hi⟩)
       rw [qh] at h4 h5
       exact zup s h4 h5 h3
     ·cases h
    ·cases h
   ·cases h
 | ra cs hS hr=>cases h;exact .ra cs (λ j hj=>⟨hfs _ _ _ (hS j hj).1,(hS j hj).2⟩) λ j hj=>(hr j hj).sub (hfs _)
 | ag=>cases h
 | tu=>cases h
 | fn cs hn hv h3 =>
  rename_i f ls vs
  cases ls with
  | nil=>cases h;exact .fn cs hn (λ j hj=>by simp at hj) λ j hj=>by simp at hj
  | cons=>cases h
theorem zoN {w0 w:World} {W0:Fr} {c:Ctx} {H:zkO} (s:Sit w0 W0 c H w) {ids snaps:List Nat}:∀ {ls ls':List LV},zl9 ids H ls=some ls'→(∀ i∈ls.flatMap (zmk ids H),i∈snaps) →
  ls'.length=ls.length∧∀ j (hj:j < ls.length) (hj':j < ls'.length) v,Cv w c (ls[j]) v→Cv w (zkE c ids snaps) (ls'[j]) v
 | [],ls',h,_=>by cases h;exact ⟨rfl,λ j hj=>by simp at hj⟩
 | lv :: r,ls',h,hs=>by
  unfold zl9 at h
  split at h
  ·rename_i x y h1 h2
   cases h
   obtain ⟨hn,ih⟩:=zoN s h2 (λ i hi=>hs i (by rw [qq];exact qbp _ hi))
   refine ⟨by simp [hn],λ j hj hj' v hv=>?_⟩
   cases j with
   | zero=>exact zmE s h1 (λ i hi=>hs i (by rw [qq];exact qbe _ hi)) hv
   | succ j=>exact ih j (by simpa using hj) (by simpa using hj') v hv
  ·cases h
theorem zAk {w0 w:World} {W0:Fr} {c:Ctx} {H:zkO} (s:Sit w0 W0 c H w) {ids snaps:List Nat} {lv lv':LV} {v:Value} (h:conv ids H lv=some lv') (hs:∀ i∈zuo ids H lv,i∈snaps) (hc:Cv w c lv v) :
  Cv w (zkE c ids snaps) lv' v:=by
 cases lv with
 | ag ls =>
  simp only [conv] at h
  cases hq:zl9 ids H ls with
  | none=>rw [hq] at h;cases h
  | some k =>
   rw [hq] at h;cases h
   obtain ⟨hn,hg⟩:=zoN s hq hs
   cases hc with
   | ag cs h1 h2 h3=>exact .ag cs (by omega) (λ j hj=>h2 j (by omega)) λ j hj=>hg j (by omega) hj _ (h3 j (by omega))
 | fn f ls =>
  simp only [conv] at h
  cases hq:zl9 ids H ls with
  | none=>rw [hq] at h;cases h
  | some k =>
   rw [hq] at h;cases h
   obtain ⟨hn,hg⟩:=zoN s hq hs
   cases hc with
   | fn cs h1 h2 h3=>exact .fn cs (by omega) (λ j hj=>h2 j (by omega)) λ j hj=>hg j (by omega) hj _ (h3 j (by omega))
 | un=>exact zmE (lv:=.un) s h hs hc
 | lf t l=>exact zmE (lv:=.lf t l) s h hs hc
 | nl=>exact zmE (lv:=.nl) s h hs hc
 | os a1 a2 a3 a4 a5 a6=>exact zmE (lv:=.os a1 a2 a3 a4 a5 a6) s h hs hc
 | pb a1 a2=>exact zmE (lv:=.pb a1 a2) s h hs hc
 | pe a1 a2 a3 a4=>exact zmE (lv:=.pe a1 a2 a3 a4) s h hs hc
 | ra a1 a2=>exact zmE (lv:=.ra a1 a2) s h hs hc
 | tu a1=>exact zmE (lv:=.tu a1) s h hs hc
theorem zrG {w0 w:World} {W0:Fr} {c:Ctx} {H:zkO} (s:Sit w0 W0 c H w) {ids snaps:List Nat}:∀ {ls ls':List LV},zlW ids H ls=some ls'→(∀ i∈ls.flatMap (zuo ids H),i∈snaps) →
  ls'.length=ls.length∧∀ j (hj:j < ls.length) (hj':j < ls'.length) v,Cv w c (ls[j]) v→Cv w (zkE c ids snaps) (ls'[j]) v
 | [],ls',h,_=>by cases h;exact ⟨rfl,λ j hj=>by simp at hj⟩
 | lv :: r,ls',h,hs=>by
  unfold zlW at h
  split at h
  ·rename_i x y h1 h2
   cases h
   obtain ⟨hn,ih⟩:=zrG s h2 (λ i hi=>hs i (by rw [qq];exact qbp _ hi))
   refine ⟨by simp [hn],λ j hj hj' v hv=>?_⟩
   cases j with
   | zero=>exact zAk s h1 (λ i hi=>hs i (by rw [qq];exact qbe _ hi)) hv
   | succ j=>exact ih j (by simpa using hj) (by simpa using hj') v hv
  ·cases h
theorem zxl {w0 w:World} {W0:Fr} {c:Ctx} {H:zkO} (s:Sit w0 W0 c H w) {ids snaps:List Nat} {o o':Ob} {L:Loc} (h:zml ids H o=some o') (hs:∀ i∈zro ids H o,i∈snaps) (hc:Holds w c L o) :
  Holds w (zkE c ids snaps) L o':=by
 cases o with
 | box ls =>
  simp only [zml] at h
  cases hq:zl9 ids H ls with
  | none=>rw [hq] at h;cases h
  | some k =>
   rw [hq] at h;cases h
   obtain ⟨hn,hg⟩:=zoN s hq hs
   obtain ⟨g1,g2,g3⟩:=hc
   exact ⟨by omega,g2,λ j hj v hv=>hg j (by omega) hj v (g3 j (by omega) v hv)⟩
 | arr t es rows =>
  cases h
  obtain ⟨g1,g0,g2,g3⟩:=hc
  refine ⟨g1,g0,g2,λ i j hi hj v hv=>(g3 i j hi hj v hv).sub λ b k x=>?_⟩
  rcases x with x | ⟨_,x⟩
  ·exact .inr ⟨rfl,.inr (.inl x)⟩
  ·exact .inr ⟨rfl,.inl x⟩
 | deep ss rows=>cases h;exact hc
 | foc ss rows p ks =>
  simp only [zml] at h
  cases hq:zl9 ids H ks with
  | none=>rw [hq] at h;cases h
  | some k =>
   rw [hq] at h;cases h
   obtain ⟨hn,hg⟩:=zoN s hq hs
   obtain ⟨g1,g0,g2,g3,g4,g5,g6⟩:=hc
   exact ⟨g1,g0,g2,g3,g4,by omega,λ j hj v hv=>hg j (by omega) hj v (g6 j (by omega) v hv)⟩
theorem zpA {ids:List Nat} {H:zkO}:∀ {k:Nat} {l:List Nat} {r:HL},zmv ids H k l=some r →
  (∀ j (hj:j < l.length),∃ fr o o',H (l[j])=some (fr,o)∧zml ids H o=some o'∧hp r (k+j)=some (false,o'))∧∀ i,hp r i≠none→k≤i∧i < k+l.length
 | k,[],r,h=>by cases h;exact ⟨λ j hj=>by simp at hj,λ i hi=>absurd rfl hi⟩
 | k,id :: l,r,h=>by
  unfold zmv at h
  split at h
  ·rename_i fr o l' h1 h2
   split at h
   ·rename_i o' h3
    cases h
    obtain ⟨ih1,ih2⟩:=zpA h2
    refine ⟨λ j hj=>?_,λ i hi=>?_⟩
    ·cases j with
     | zero=>exact ⟨fr,o,o',h1,h3,by rw [zkD];exact zlf _ _ _⟩
     | succ j =>
      obtain ⟨a,b,b',g1,g2,g3⟩:=ih1 j (by simpa using hj)
      refine ⟨a,b,b',g1,g2,?_⟩
      rw [zkD,zle _ _ (by omega),show k+(j+1)=k+1+j by omega]
      exact g3
    ·rw [zkD] at hi
     by_cases e:i=k
     ·subst e;simp
     ·rw [zle _ _ e] at hi
      have:=ih2 i hi
      simp;omega
   ·cases h
  ·cases h
theorem zqq {l:List Nat} (h:l.Nodup) {i j:Nat} (hi:i < l.length) (hj:j < l.length) (e:l[i]=l[j]):i=j:=by
 rcases Nat.lt_trichotomy i j with h1 | h1 | h1
 ·exact absurd e (List.pairwise_iff_getElem.1 h i j hi hj h1)
 ·exact h1
 ·exact absurd e.symm (List.pairwise_iff_getElem.1 h j i hj hi h1)
theorem zvG {w0 w:World} {W0:Fr} {c:Ctx} {H:zkO} (s:Sit w0 W0 c H w) {ids snaps:List Nat} {H0:HL} (h0:zmv ids H 0 ids=some H0) (hnd:ids.Nodup)
  (hsn:∀ i∈snaps,i∉ids∧H i≠none) (hs:∀ id∈ids,∀ o,H id=some o→∀ i∈zro ids H o.2,i∈snaps) :
  Sit w (frm (rng (zkE c ids snaps).loc (hp H0))) (zkE c ids snaps) (hp H0) w ∧
  ∀ b k,rng (zkE c ids snaps).loc (hp H0) b k→∃ id o,id∈ids∧H id=some o∧inR (c.loc id) b k:=by
 obtain ⟨g1,g2⟩:=zpA h0
 have hget:∀ k o',hp H0 k=some o'→∃ (hk:k < ids.length) (fr:Bool) (o:Ob),H (ids[k])=some (fr,o)∧zml ids H o=some o'.2∧o'.1=false∧(zkE c ids snaps).loc k=c.loc (ids[k]):=by
  intro k o' hk
  have hlt:=(g2 k (by rw [hk];simp)).2
  rw [ql] at hlt
  obtain ⟨fr,o,o2,h1,h2,h3⟩:=g1 k hlt
  rw [ql,hk] at h3
  cases h3
  exact ⟨hlt,fr,o,h1,h2,rfl,by show c.loc (ids.getD k 0)=_;simp [hlt]⟩
 have hr:∀ b k,rng (zkE c ids snaps).loc (hp H0) b k→∃ id o,id∈ids∧H id=some o∧inR (c.loc id) b k:=by
  rintro b k ⟨i,o',hi,hin⟩
  obtain ⟨hk,fr,o,h1,_,_,h4⟩:=hget i o' hi
  rw [h4] at hin
  exact ⟨_,_,qa hk,h1,hin⟩
 refine ⟨⟨Keep.refl _ _,λ k o' hk=>?_,λ i j oi oj hi hj hij b k k' hb hb'=>?_,λ k o' hk b l hb=>?_,λ b k hf=>?_,λ b k hg=>hg.elim,λ b k v he=>(by cases he),λ k o' hk b l hb=>s.pl _ _ (hget k o' hk).choose_spec.choose_spec.choose_spec.1 b l ((hget k o' hk).choose_spec.choose_spec.choose_spec.2.2.2 ▸ hb),λ k o' hk x hx=>?_⟩,hr⟩
 ·obtain ⟨hlt,fr,o,h1,h2,h3,h4⟩:=hget k o' hk
  refine ⟨hlt,?_⟩
  rw [h4]
  exact zxl s h2 (hs _ (qa hlt) _ h1) (s.own _ _ h1).2
 ·obtain ⟨hk1,fr,o,h1,_,_,h4⟩:=hget i oi hi
  obtain ⟨hk2,fr2,o2,h12,_,_,h42⟩:=hget j oj hj
  rw [h4] at hb
  rw [h42] at hb'
  refine s.dis _ _ _ _ h1 h12 (λ e=>hij ?_) b k k' hb hb'
  exact zqq hnd hk1 hk2 e
 ·obtain ⟨hlt,fr,o,h1,h2,h3,h4⟩:=hget k o' hk
  have hin:inR (c.loc (ids[k])) b l:=by rw [← h4];exact hb
  obtain ⟨q1,q2,_⟩:=s.sep _ _ h1 b l hin
  refine ⟨λ l' hf=>?_,λ l' hg=>hg,.inl ⟨h3,k,o',hk,hb⟩⟩
  rcases hf with hf | hf | ⟨id,hid,hf⟩
  ·exact q1 _ hf
  ·exact q2 _ hf
  ·obtain ⟨z1,z2⟩:=hsn id hid
   cases hq:H id with
   | none=>exact z2 hq
   | some q=>exact s.dis _ _ _ _ h1 hq (λ e=>z1 (e ▸ qa hlt)) b l l' hin hf
 ·have hnr:¬ rng (zkE c ids snaps).loc (hp H0) b k:=by
   intro hx
   obtain ⟨id,o,hid,ho,hin⟩:=hr b k hx
   obtain ⟨q1,q2,_⟩:=s.sep _ _ ho b k hin
   rcases hf with hf | hf | ⟨i,hi,hf⟩
   ·exact q1 _ hf
   ·exact q2 _ hf
   ·obtain ⟨z1,z2⟩:=hsn i hi
    cases hq:H i with
    | none=>exact z2 hq
    | some q=>exact s.dis _ _ _ _ ho hq (λ e=>z1 (e ▸ hid)) b k k hin hf
  refine ⟨?_,hnr⟩
  rcases hf with hf | hf | ⟨i,hi,hf⟩
  ·exact qc (s.old b k hf).1 s.keep.size
  ·exact (s.new b k hf).2
  ·obtain ⟨z1,z2⟩:=hsn i hi
   cases hq:H i with
   | none=>exact absurd hq z2
   | some q=>exact s.lt hq hf
 ·obtain ⟨hlt,fr,o,h1,_,_,h4⟩:=hget k o' hk
  rw [h4] at hx
  obtain ⟨q1,q2⟩:=s.mo _ _ h1 x hx
  refine ⟨q1,?_⟩
  rename_i h2 _
  cases o with
  | box ls=>cases q2
  | arr t es rows=>cases q2
  | deep ss rows=>injection h2 with h2;rw [← h2];rfl
  | foc ss rows p ks =>
   simp only [zml] at h2
   cases hq:zl9 ids H ks with
   | none=>rw [hq] at h2;cases h2
   | some k=>rw [hq] at h2;injection h2 with h2;rw [← h2];rfl
theorem zuq {w':World} {c c1 c':Ctx} {ids snaps:List Nat} (hF:c'.F=c.F) (hG:∀ b k,c.G b k∨c1.G b k→c'.G b k) (hle:(zkE c ids snaps).Le c1) {t:Bool} (hfr:snaps=[]∨t=false) {l:Leaf} {v:Value}
  (h:RepL w' (c1.fs t) v l):RepL w' (c'.fs t) v l:=by
 refine h.sub λ b k x=>?_
 rcases x with x | ⟨rfl,x⟩
 ·exact .inl (hG b k (.inr x))
 ·rw [hle.F] at x
  rcases x with x | x | ⟨id,hid,x⟩
  ·exact .inr ⟨rfl,by rw [hF];exact x⟩
  ·exact .inl (hG b k (.inl x))
  ·rcases hfr with rfl | h
   ·cases hid
   ·cases h
theorem zmr {w':World} {c c1 c':Ctx} {ids snaps:List Nat} (hF:c'.F=c.F) (hG:∀ b k,c.G b k∨c1.G b k→c'.G b k) (hle:(zkE c ids snaps).Le c1)
  (hl1:∀ k (hk:k < ids.length),c'.loc (ids[k])=c1.loc k∧ids[k] < c'.nx) (hl2:∀ k,ids.length≤k→k < c1.nx→c'.loc (c.nx+(k - ids.length))=c1.loc k∧c.nx+(k - ids.length) < c'.nx)
  {lv:LV} {v:Value} (hfr:snaps=[]∨zpr lv=true) (h:Cv w' c1 lv v):Cv w' c' (zm9 ids c.nx lv) v:=by
 cases h with
 | un v=>exact .un _
 | lf h =>
  rename_i t l
  cases l with
  | sc u=>cases h with
   | sc hu=>exact .lf (.sc hu)
  | sl rows =>
   refine .lf (zuq hF hG hle (hfr.imp id λ h=>?_) h)
   cases t
   ·rfl
   ·cases h
  | raw u=>cases h with
   | raw h1 h2=>exact .lf (.raw h1 h2)
 | nl a=>exact .nl a
 | os hid hl hm hx ha hn =>
  rename_i k es lo len mc cap ex a
  rcases qj k ids.length with hk | hk
  ·obtain ⟨e1,e2⟩:=hl1 k hk
   simp only [zm9,List.getElem?_eq_getElem hk]
   exact .os e2 hl hm hx (by rw [e1];exact ha) (by rw [e1];exact hn)
  ·obtain ⟨e1,e2⟩:=hl2 k hk hid
   simp only [zm9,List.getElem?_eq_none hk]
   exact .os e2 hl hm hx (by rw [e1];exact ha) (by rw [e1];exact hn)
 | pb hid =>
  rename_i k off
  rcases qj k ids.length with hk | hk
  ·obtain ⟨e1,e2⟩:=hl1 k hk
   simp only [zm9,List.getElem?_eq_getElem hk]
   rw [← e1]
   exact .pb e2
  ·obtain ⟨e1,e2⟩:=hl2 k hk hid
   simp only [zm9,List.getElem?_eq_none hk]
   rw [← e1]
   exact .pb e2
 | pe=>exact .un _
 | ra cs hS hr =>
  rename_i t ls b o
  have ht:snaps=[]∨t=false:=hfr.imp id λ h=>by
   cases t
   ·rfl
   ·cases h
  have hsub:∀ b k,c1.fs t b k→c'.fs t b k:=by
   intro b k x
   rcases x with x | ⟨rfl,x⟩
   ·exact .inl (hG b k (.inr x))
   ·rw [hle.F] at x
    rcases x with x | x | ⟨id,hid,x⟩
    ·exact .inr ⟨rfl,by rw [hF];exact x⟩
    ·exact .inl (hG b k (.inl x))
    ·rcases ht with rfl | h
     ·cases hid
     ·cases h
  exact .ra cs (λ j hj=>⟨hsub _ _ (hS j hj).1,(hS j hj).2⟩) λ j hj=>(hr j hj).sub hsub
 | ag=>exact .un _
 | tu=>exact .un _
 | fn cs hn hv h3 =>
  rename_i f ls vs
  cases ls with
  | nil=>exact .fn cs hn (λ j hj=>by simp at hj) λ j hj=>by simp at hj
  | cons=>exact .un _
end Go.TL
namespace Go.TL
open Go
theorem zur {α β:Type} {φ:Nat→Nat} {g:Nat→α→β} {k0:Nat} (hinj:∀ k,φ k=φ k0→k=k0) (l:List (Nat×α)) (old:List (Nat×β)) :
  zkm (l.map (λ p=>(φ p.1,g p.1 p.2))++old) (φ k0)=match zkm l k0 with | some x=>some (g k0 x) | none=>zkm old (φ k0):=by
 induction l with
 | nil=>rfl
 | cons p r ih =>
  obtain ⟨k,x⟩:=p
  simp only [qp,qcg,zkm]
  by_cases e:k0=k
  ·subst e;simp
  ·have:¬ φ k0=φ k:=λ h=>e (hinj k h.symm).symm
   rw [if_neg this,if_neg e]
   exact ih
theorem zsE {α β:Type} {φ:Nat→Nat} {g:Nat→α→β} {id:Nat} (hno:∀ k,φ k≠id) (l:List (Nat×α)) (old:List (Nat×β)) :
  zkm (l.map (λ p=>(φ p.1,g p.1 p.2))++old) id=zkm old id:=by
 induction l with
 | nil=>rfl
 | cons p r ih =>
  obtain ⟨k,x⟩:=p
  simp only [qp,qcg,zkm]
  rw [if_neg (λ h=>hno k h.symm)]
  exact ih
theorem ztF {ids:List Nat} {nx:Nat} (hnd:ids.Nodup) (hlt:∀ i∈ids,i < nx) {j k:Nat} (h:num ids nx j=num ids nx k):j=k:=by
 unfold num at h
 rcases qj j ids.length with hj | hj<;>rcases qj k ids.length with hk | hk
 ·rw [List.getElem?_eq_getElem hj,List.getElem?_eq_getElem hk] at h
  exact zqq hnd hj hk h
 ·rw [List.getElem?_eq_getElem hj,List.getElem?_eq_none hk] at h
  have:=hlt _ (qa hj)
  simp only at h;omega
 ·rw [List.getElem?_eq_none hj,List.getElem?_eq_getElem hk] at h
  have:=hlt _ (qa hk)
  simp only at h;omega
 ·rw [List.getElem?_eq_none hj,List.getElem?_eq_none hk] at h
  simp only at h;omega
theorem zus {H:zkO} {lv:LV} {l:Leaf} (h:znn H lv=some l):∀ i∈zoD lv,H i≠none:=by
 intro i hi
 cases lv with
 | os id es lo len mc ex =>
  simp only [zoD,qbc] at hi
  subst hi
  intro hn
  simp only [znn,hn] at h
  cases h
 | _=>simp [zoD] at hi
theorem znV {H:zkO}:∀ {ks:List LV} {ls:List Leaf},zlV H ks=some ls→∀ i∈ks.flatMap zoD,H i≠none
 | [],_,_=>λ i hi=>by simp at hi
 | lv :: r,ls,h=>by
  unfold zlV at h
  split at h
  ·rename_i l ls' h1 h2
   intro i hi
   rw [qq,qw] at hi
   rcases hi with hi | hi
   ·exact zus h1 i hi
   ·exact znV h2 i hi
  ·cases h
theorem znE {ids:List Nat} {H:zkO} {lv lv':LV} (h:zmj ids H lv=some lv'):∀ i∈zmk ids H lv,i∉ids→H i≠none:=by
 intro i hi _
 cases lv with
 | os id es lo len mc ex =>
  simp only [zmk] at hi
  simp only [zmj] at h
  split at hi
  ·cases hi
  ·rename_i hk
   rw [hk] at h
   simp only [qbc] at hi
   subst hi
   intro hn
   rw [hn] at h
   cases h
 | pb id off =>
  simp only [zmk] at hi
  simp only [zmj] at h
  split at hi
  ·cases hi
  ·rename_i hk
   rw [hk] at h
   simp only at h
   split at h
   ·rename_i fr ls ho
    rw [ho] at hi
    split at h
    ·rename_i l hl
     rcases List.mem_cons.1 hi with hi | hi
     ·subst hi;rw [ho];simp
     ·exact znV hl i hi
    ·cases h
   ·cases h
 | pe id es j off =>
  simp only [zmk] at hi
  simp only [zmj] at h
  split at hi
  ·cases hi
  ·rename_i hk
   rw [hk] at h
   simp only at h
   split at h
   ·rename_i fr t es' rows ho
    rw [ho] at hi
    simp only [qbc] at hi
    subst hi;rw [ho];simp
   ·rename_i fr ss rows ho
    rw [ho] at hi
    simp only [qbc] at hi
    subst hi;rw [ho];simp
   ·rename_i fr ss rows p ks ho
    rw [ho] at hi
    split at h
    ·split at h
     ·rename_i l hl
      rcases List.mem_cons.1 hi with hi | hi
      ·subst hi;rw [ho];simp
      ·exact znV hl i hi
     ·cases h
    ·cases h
   ·cases h
 | un=>cases hi
 | lf t l=>cases hi
 | nl=>cases hi
 | ra a b=>cases hi
 | ag a=>cases hi
 | tu a=>cases hi
 | fn a b=>cases hi
theorem zmY {ids:List Nat} {H:zkO}:∀ {ls ls':List LV},zl9 ids H ls=some ls'→∀ i∈ls.flatMap (zmk ids H),i∉ids→H i≠none
 | [],_,_=>λ i hi=>by simp at hi
 | lv :: r,ls',h=>by
  unfold zl9 at h
  split at h
  ·rename_i x y h1 h2
   intro i hi hn
   rw [qq,qw] at hi
   rcases hi with hi | hi
   ·exact znE h1 i hi hn
   ·exact zmY h2 i hi hn
  ·cases h
theorem zvH {ids:List Nat} {H:zkO} {lv lv':LV} (h:conv ids H lv=some lv'):∀ i∈zuo ids H lv,i∉ids→H i≠none:=by
 cases lv with
 | ag ls =>
  simp only [conv] at h
  cases hq:zl9 ids H ls with
  | none=>rw [hq] at h;cases h
  | some k=>exact zmY hq
 | fn f ls =>
  simp only [conv] at h
  cases hq:zl9 ids H ls with
  | none=>rw [hq] at h;cases h
  | some k=>exact zmY hq
 | os a b c d e f=>exact znE (lv:=.os a b c d e f) h
 | pb a b=>exact znE (lv:=.pb a b) h
 | un=>intro i hi;cases hi
 | lf t l=>intro i hi;cases hi
 | nl=>intro i hi;cases hi
 | pe a b c d=>exact znE (lv:=.pe a b c d) h
 | ra a b=>intro i hi;cases hi
 | tu a=>intro i hi;cases hi
theorem zps {ids:List Nat} {H:zkO}:∀ {ls ls':List LV},zlW ids H ls=some ls'→∀ i∈ls.flatMap (zuo ids H),i∉ids→H i≠none
 | [],_,_=>λ i hi=>by simp at hi
 | lv :: r,ls',h=>by
  unfold zlW at h
  split at h
  ·rename_i x y h1 h2
   intro i hi hn
   rw [qq,qw] at hi
   rcases hi with hi | hi
   ·exact zvH h1 i hi hn
   ·exact zps h2 i hi hn
  ·cases h
theorem zox {ids:List Nat} {H:zkO} {H0:HL} (h0:zmv ids H 0 ids=some H0):∀ id∈ids,∃ o,H id=some o∧∀ i∈zro ids H o.2,i∉ids→H i≠none:=by
 intro id hid
 obtain ⟨g1,_⟩:=zpA h0
 obtain ⟨k,hk,rfl⟩:=qo hid
 obtain ⟨fr,o,o',h1,h2,_⟩:=g1 k hk
 refine ⟨_,h1,?_⟩
 cases o with
 | box ls =>
  simp only [zml] at h2
  cases hq:zl9 ids H ls with
  | none=>rw [hq] at h2;cases h2
  | some x=>exact zmY hq
 | arr t es rows=>intro i hi;cases hi
 | deep ss rows=>intro i hi;cases hi
 | foc ss rows p ks =>
  simp only [zml] at h2
  cases hq:zl9 ids H ks with
  | none=>rw [hq] at h2;cases h2
  | some x=>exact zmY hq
theorem zvJ {w':World} {c c1 c':Ctx} {ids snaps:List Nat} (hF:c'.F=c.F) (hG:∀ b k,c.G b k∨c1.G b k→c'.G b k) (hle:(zkE c ids snaps).Le c1)
  (hl1:∀ k (hk:k < ids.length),c'.loc (ids[k])=c1.loc k∧ids[k] < c'.nx) (hl2:∀ k,ids.length≤k→k < c1.nx→c'.loc (c.nx+(k - ids.length))=c1.loc k∧c.nx+(k - ids.length) < c'.nx)
  {o:Ob} {L:Loc} (hfr:snaps=[]∨zmw o=true) (h:Holds w' c1 L o):Holds w' c' L (zow ids c.nx o):=by
 cases o with
 | box ls =>
  obtain ⟨g1,g2,g3⟩:=h
  refine ⟨by simpa using g1,g2,λ j hj v hv=>?_⟩
  have hj':j < ls.length:=by simpa using hj
  simp only [qi]
  refine zmr hF hG hle hl1 hl2 (hfr.imp id λ h=>?_) (g3 j hj' v hv)
  rw [zmw,qr] at h
  exact h _ (qa hj')
 | arr t es rows =>
  obtain ⟨g1,g0,g2,g3⟩:=h
  exact ⟨g1,g0,g2,λ i j hi hj v hv=>zuq hF hG hle (hfr.imp id λ h=>by simpa [zmw] using h) (g3 i j hi hj v hv)⟩
 | deep ss rows=>exact h
 | foc ss rows p ks =>
  obtain ⟨g1,g0,g2,g3,g4,g5,g6⟩:=h
  refine ⟨g1,g0,g2,g3,g4,by simpa using g5,λ j hj v hv=>?_⟩
  have hj':j < ks.length:=by simpa using hj
  simp only [qi]
  refine zmr hF hG hle hl1 hl2 (hfr.imp id λ h=>?_) (g6 j hj' v hv)
  rw [zmw,qr] at h
  exact h _ (qa hj')
theorem zmF {w':World} {c c1 c':Ctx} {ids snaps:List Nat} (hF:c'.F=c.F) (hG:∀ b k,c.G b k∨c1.G b k→c'.G b k) (hle:(zkE c ids snaps).Le c1)
  (hl1:∀ k (hk:k < ids.length),c'.loc (ids[k])=c1.loc k∧ids[k] < c'.nx) (hl2:∀ k,ids.length≤k→k < c1.nx→c'.loc (c.nx+(k - ids.length))=c1.loc k∧c.nx+(k - ids.length) < c'.nx)
  {lv:LV} {v:Value} (hfr:snaps=[]∨zwA lv=true) (h:Cv w' c1 lv v):Cv w' c' (zpR ids c.nx lv) v:=by
 cases lv with
 | ag ls =>
  cases h with
  | ag cs hn hv h3 =>
   refine .ag cs (by simpa using hn) (λ j hj=>hv j (by simpa using hj)) λ j hj=>?_
   have hj':j < ls.length:=by simpa using hj
   simp only [qi]
   refine zmr hF hG hle hl1 hl2 (hfr.imp id λ h=>?_) (h3 j hj')
   rw [zwA,qr] at h
   exact h _ (qa hj')
 | un=>exact zmr (lv:=.un) hF hG hle hl1 hl2 hfr h
 | lf t l=>exact zmr (lv:=.lf t l) hF hG hle hl1 hl2 hfr h
 | nl=>exact zmr (lv:=.nl) hF hG hle hl1 hl2 hfr h
 | os x1 x2 x3 x4 x5 x6=>exact zmr (lv:=.os x1 x2 x3 x4 x5 x6) hF hG hle hl1 hl2 hfr h
 | pb x1 x2=>exact zmr (lv:=.pb x1 x2) hF hG hle hl1 hl2 hfr h
 | pe x1 x2 x3 x4=>exact .un _
 | ra x1 x2=>exact zmr (lv:=.ra x1 x2) hF hG hle hl1 hl2 hfr h
 | tu x1=>exact .un _
 | fn x1 x2=>exact zmr (lv:=.fn x1 x2) hF hG hle hl1 hl2 hfr h
theorem zAl {w':World} {c c1 c':Ctx} {ids snaps:List Nat} (hF:c'.F=c.F) (hG:∀ b k,c.G b k∨c1.G b k→c'.G b k) (hle:(zkE c ids snaps).Le c1)
  (hl1:∀ k (hk:k < ids.length),c'.loc (ids[k])=c1.loc k∧ids[k] < c'.nx) (hl2:∀ k,ids.length≤k→k < c1.nx→c'.loc (c.nx+(k - ids.length))=c1.loc k∧c.nx+(k - ids.length) < c'.nx)
  {lv:LV} {v:Value} (hfr:snaps=[]∨zvE lv=true) (h:Cv w' c1 lv v):Cv w' c' (zpz ids c.nx lv) v:=by
 cases lv with
 | tu ls =>
  cases h with
  | tu cs hn hv h3 =>
   refine .tu cs (by simpa using hn) (λ j hj=>hv j (by simpa using hj)) λ j hj=>?_
   have hj':j < ls.length:=by simpa using hj
   simp only [qi]
   refine zmF hF hG hle hl1 hl2 (hfr.imp id λ h=>?_) (h3 j hj')
   rw [zvE,qr] at h
   exact h _ (qa hj')
 | un=>exact zmF (lv:=.un) hF hG hle hl1 hl2 hfr h
 | lf t l=>exact zmF (lv:=.lf t l) hF hG hle hl1 hl2 hfr h
 | nl=>exact zmF (lv:=.nl) hF hG hle hl1 hl2 hfr h
 | os x1 x2 x3 x4 x5 x6=>exact zmF (lv:=.os x1 x2 x3 x4 x5 x6) hF hG hle hl1 hl2 hfr h
 | pb x1 x2=>exact zmF (lv:=.pb x1 x2) hF hG hle hl1 hl2 hfr h
 | pe x1 x2 x3 x4=>exact .un _
 | ra x1 x2=>exact zmF (lv:=.ra x1 x2) hF hG hle hl1 hl2 hfr h
 | ag x1=>exact zmF (lv:=.ag x1) hF hG hle hl1 hl2 hfr h
 | fn x1 x2=>exact zmF (lv:=.fn x1 x2) hF hG hle hl1 hl2 hfr h
def zyx (P:Program) (s:St) (f:FuncId) (args:List LV) (K:LV→HL→Nat→Prop):Prop :=
 ∃ (ids:List Nat) (args' args2:List LV) (H0:HL) (res:LV) (H1:HL) (nxr:Nat),
  zlW ids (hp s.H) args=some args2∧FitAll args2 args'∧zmv ids (hp s.H) 0 ids=some H0∧ids.Nodup∧(∀ i∈zli ids (hp s.H) args,i∉ids) ∧
  zB7 P f args' H0 ids.length res H1 nxr∧(zli ids (hp s.H) args=[]∨(zvE res=true∧∀ p∈H1,∀ o,p.2=some o→zmw o.2=true))∧(∀ k,k < ids.length→(zkm H1 k).isSome=true) ∧
  K (zpz ids s.nx res) (zl4 ids (hp s.H) s.nx H1 s.H) (s.nx+(nxr - ids.length))
theorem zAm {P:Program} {s:St} {f:FuncId} {args:List LV} {K:LV→HL→Nat→Prop} (h:zyx P s f args K) {w0:World} {W0:Fr} {c:Ctx} {w:World} (hs:Sit w0 W0 c (hp s.H) w) (hnx:c.nx=s.nx)
  {vs:Array Value} (hn:vs.size=args.length) (hv:∀ j (hj:j < args.length),∃ v,vs[j]?=some v∧Cv w c (args[j]) v) :
  Calls P f vs w λ e w'=>∃ v c' lv H' nx',e=.returned v∧K lv H' nx'∧c.Le c'∧c'.nx=nx'∧Sit w0 W0 c' (hp H') w'∧Same c w w'∧Cv w' c' lv v:=by
 obtain ⟨ids,args',args2,H0,res,H1,nxr,ha,hfit,h0,hnd,hap,hok,hfr,hall,hK⟩:=h
 have hsn:∀ i∈zli ids (hp s.H) args,i∉ids∧hp s.H i≠none:=by
  intro i hi
  have hni:=hap i hi
  refine ⟨hni,?_⟩
  unfold zli at hi
  rw [qw] at hi
  rcases hi with hi | hi
  ·exact zps ha i hi hni
  ·rw [List.mem_flatMap] at hi
   obtain ⟨id,hid,hi⟩:=hi
   obtain ⟨o,ho,hth⟩:=zox h0 id hid
   rw [ho] at hi
   exact hth i hi hni
 obtain ⟨hsit,hr⟩:=zvG hs (snaps:=zli ids (hp s.H) args) h0 hnd hsn (by
  intro id hid o ho i hi
  unfold zli
  rw [qw]
  refine .inr (List.mem_flatMap.2 ⟨id,hid,?_⟩)
  rw [ho]
  exact hi)
 have hidlt:∀ i∈ids,i < c.nx:=λ i hi=>by
  obtain ⟨o,ho,_⟩:=zox h0 i hi
  exact (hs.own _ _ ho).1
 obtain ⟨hl2,hcv⟩:=zrG (snaps:=zli ids (hp s.H) args) hs ha (λ i hi=>by unfold zli;exact qbe _ hi)
 obtain ⟨hl3,hft⟩:=zrF (w:=w) (c:=zkE c ids (zli ids (hp s.H) args)) hfit
 refine (hok w _ _ vs hsit (by omega) (λ j hj=>?_)).mono λ e w'=>?_
 ·obtain ⟨v,h1,h2⟩:=hv j (by omega)
  exact ⟨v,h1,hft j (by omega) hj v (hcv j (by omega) (by omega) v h2)⟩
 rintro ⟨v,c1,rfl,hle,hnxr,hs1,hcr⟩
 have hm:ids.length≤nxr:=by have:=hle.nx;rw [hnxr] at this;exact this
 let c':Ctx:=⟨c.F,λ b k=>c.G b k∨c1.G b k,λ i=>if i < c.nx then (match pos ids i with | some k=>c1.loc k | none=>c.loc i) else c1.loc (i - c.nx+ids.length),c.nx+(nxr - ids.length)⟩
 have hposn:∀ i,i∉ids→pos ids i=none:=λ i hi=>by
  cases hp:pos ids i with
  | none=>rfl
  | some k=>exact absurd (List.mem_of_getElem? (ztE hp)) hi
 have hposk:∀ k (hk:k < ids.length),pos ids (ids[k])=some k:=λ k hk=>by
  cases hp:pos ids (ids[k]) with
  | none =>
   exfalso
   have:∀ (l:List Nat) (x:Nat),x∈l→pos l x≠none:=by
    intro l
    induction l with
    | nil=>intro x hx;cases hx
    | cons y r ih =>
     intro x hx he
     unfold pos at he
     split at he
     ·cases he
     ·rename_i hne
      refine ih x ?_ (by simpa using he)
      exact (List.mem_cons.1 hx).resolve_left hne
   exact this _ _ (qa hk) hp
  | some j =>
   have hg:=ztE hp
   obtain ⟨hj,hg⟩:=List.getElem?_eq_some_iff.1 hg
   rw [zqq hnd hj hk hg]
 have hlow0:∀ i,i∉ids→i < c.nx→c'.loc i=c.loc i:=λ i h1 h2=>by
  show (if i < c.nx then (match pos ids i with | some k=>c1.loc k | none=>c.loc i) else _)=_
  rw [if_pos h2,hposn i h1]
 have hcle:c.Le c':=⟨rfl,λ _ _ h=>.inl h,qbl _ _,λ i hi=>by
  by_cases hm:i∈ids
  ·obtain ⟨k,hk,rfl⟩:=qo hm
   show (c.loc ids[k]).same (if ids[k] < c.nx then (match pos ids ids[k] with | some k=>c1.loc k | none=>c.loc ids[k]) else _)
   rw [if_pos hi,hposk k hk]
   have e:c.loc (ids.getD k 0)=c.loc ids[k]:=by simp [hk]
   rw [← e]
   exact hle.loc k hk
  ·rw [hlow0 i hm hi];exact Loc.same.refl _⟩
 have hG:∀ b k,c.G b k∨c1.G b k→c'.G b k:=λ _ _ h=>h
 have hlo1:∀ k (hk:k < ids.length),c'.loc (ids[k])=c1.loc k∧ids[k] < c'.nx:=by
  intro k hk
  have hlt:=hidlt _ (qa hk)
  refine ⟨?_,qc hlt (qbl _ _)⟩
  show (if ids[k] < c.nx then (match pos ids ids[k] with | some k=>c1.loc k | none=>c.loc ids[k]) else _)=_
  rw [if_pos hlt,hposk k hk]
 have hlo2:∀ k,ids.length≤k→k < c1.nx→c'.loc (c.nx+(k - ids.length))=c1.loc k∧c.nx+(k - ids.length) < c'.nx:=by
  intro k h1 h2
  refine ⟨?_,?_⟩
  ·show (if c.nx+(k - ids.length) < c.nx then _ else c1.loc (c.nx+(k - ids.length) - c.nx+ids.length))=_
   rw [if_neg (by omega)]
   congr 1
   omega
  ·show _ < c.nx+(nxr - ids.length)
   omega
 have hlow:∀ i,i∉ids→i < c.nx→c'.loc i=c.loc i:=hlow0
 have hD:∀ b j,b < w.heap.size→rng (zkE c ids (zli ids (hp s.H) args)).loc (hp H0) b j→∃ i o,hp s.H i=some o∧inR (c.loc i) b j:=λ b j _ d=>by
  obtain ⟨id,o,_,h1,h2⟩:=hr b j d
  exact ⟨id,o,h1,h2⟩
 have hsame:=hs.same hs1.keep hD
 have hfrOb:∀ k o,hp H1 k=some o→zli ids (hp s.H) args=[]∨zmw o.2=true:=by
  intro k o ho
  refine hfr.imp id λ h=>?_
  unfold hp at ho
  cases hq:zkm H1 k with
  | none=>rw [hq] at ho;cases ho
  | some x =>
   rw [hq] at ho
   exact h.2 _ (zlL hq) o ho
 have hcase:∀ i o,hp (zl4 ids (hp s.H) s.nx H1 s.H) i=some o →
   (∃ k,i=num ids c.nx k∧k < c1.nx∧∃ o1,hp H1 k=some o1∧o.2=zow ids c.nx o1.2∧c'.loc i=c1.loc k∧i < c'.nx ∧
    ((∃ (hk:k < ids.length) (q:Bool×Ob),hp s.H (ids[k])=some q∧o.1=zoL ids (hp s.H) q.1 o1.2∧i=ids[k])∨(ids.length≤k∧o.1=(o1.1 || znD (hp s.H) ids)∧c.nx≤i))) ∨
   (hp s.H i=some o∧i∉ids∧i < c.nx):=by
  intro i o ho
  rw [← hnx] at ho
  change (zkm (zl4 ids (hp s.H) c.nx H1 s.H) i).getD none=some o at ho
  unfold zl4 at ho
  have key:∀ k0,i=num ids c.nx k0→(∀ k,num ids c.nx k=num ids c.nx k0→k=k0)→(zkm H1 k0).isSome=true→∃ o1,hp H1 k0=some o1∧zmX ids (hp s.H) c.nx k0 (some o1)=some o:=by
   intro k0 hi hinj hsm
   rw [hi,zur hinj] at ho
   cases hq:zkm H1 k0 with
   | none=>rw [hq] at hsm;cases hsm
   | some x =>
    rw [hq] at ho
    simp only [qt] at ho
    cases x with
    | none =>
     unfold zmX at ho
     split at ho<;>cases ho
    | some o1=>exact ⟨o1,by unfold hp;rw [hq];rfl,ho⟩
  by_cases hmem:i∈ids
  ·obtain ⟨k,hk,rfl⟩:=qo hmem
   have hnum:num ids c.nx k=ids[k]:=by unfold num;rw [List.getElem?_eq_getElem hk]
   obtain ⟨o1,h1,h2⟩:=key k hnum.symm (λ j hj=>ztF hnd hidlt hj) (hall k hk)
   left
   obtain ⟨q,hq,_⟩:=zox h0 _ (qa hk)
   unfold zmX at h2
   rw [List.getElem?_eq_getElem hk] at h2
   simp only [Option.bind_some,hq,qn,Option.some.injEq] at h2
   refine ⟨k,hnum.symm,by omega,o1,h1,by rw [← h2],(hlo1 k hk).1,(hlo1 k hk).2,.inl ⟨hk,q,hq,by rw [← h2],rfl⟩⟩
  ·by_cases hge:c.nx≤i
   ·left
    have hnum:num ids c.nx (i - c.nx+ids.length)=i:=by
     unfold num
     rw [List.getElem?_eq_none (by omega)]
     simp only;omega
    have hsm:(zkm H1 (i - c.nx+ids.length)).isSome=true:=by
     cases hq:zkm H1 (i - c.nx+ids.length) with
     | some x=>rfl
     | none =>
      exfalso
      have:=zur (φ:=num ids c.nx) (g:=zmX ids (hp s.H) c.nx) (k0:=i - c.nx+ids.length) (λ j hj=>ztF hnd hidlt hj) H1 s.H
      rw [hnum,hq] at this
      rw [this] at ho
      have:hp s.H i=some o:=ho
      have:=(hs.own _ _ this).1
      omega
    obtain ⟨o1,h1,h2⟩:=key _ hnum.symm (λ j hj=>ztF hnd hidlt hj) hsm
    unfold zmX at h2
    rw [List.getElem?_eq_none (by omega)] at h2
    simp only [qn,Option.some.injEq] at h2
    have hk1:=(hs1.own _ _ h1).1
    have:=hlo2 (i - c.nx+ids.length) (by omega) hk1
    rw [show c.nx+(i - c.nx+ids.length - ids.length)=i by omega] at this
    exact ⟨_,hnum.symm,hk1,o1,h1,by rw [← h2],this.1,this.2,.inr ⟨by omega,by rw [← h2],hge⟩⟩
   ·right
    rw [zsE (λ k hk=>?_)] at ho
    ·exact ⟨ho,hmem,by omega⟩
    ·unfold num at hk
     rcases qj k ids.length with h1 | h1
     ·rw [List.getElem?_eq_getElem h1] at hk;exact hmem (hk ▸ qa h1)
     ·rw [List.getElem?_eq_none h1] at hk;simp only at hk;omega
 have hold:∀ i o,hp s.H i=some o→i∉ids→∀ b j j',inR (c.loc i) b j→¬ rng (zkE c ids (zli ids (hp s.H) args)).loc (hp H0) b j':=by
  intro i o ho hi b j j' hb hx
  obtain ⟨id,o',hid,h1,h2⟩:=hr b j' hx
  exact hs.dis i id _ _ ho h1 (λ e=>hi (e ▸ hid)) b j j' hb h2
 have hsep1:∀ k o1,hp H1 k=some o1→∀ b j,inR (c1.loc k) b j→(∀ j',¬ c.F b j')∧(∀ j',¬ c.G b j')∧(∀ j',¬ c1.G b j')∧((o1.1=false∧rng (zkE c ids (zli ids (hp s.H) args)).loc (hp H0) b j)∨w.heap.size≤b):=by
  intro k o1 h1 b j hb
  obtain ⟨q1,q2,q3⟩:=hs1.sep k o1 h1 b j hb
  rw [hle.F] at q1
  exact ⟨λ j' h=>q1 j' (.inl h),λ j' h=>q1 j' (.inr (.inl h)),q2,q3⟩
 have hrw:∀ b j,rng (zkE c ids (zli ids (hp s.H) args)).loc (hp H0) b j→∃ id o,id∈ids∧hp s.H id=some o∧inR (c.loc id) b j:=hr
 refine ⟨v,c',zpz ids s.nx res,zl4 ids (hp s.H) s.nx H1 s.H,s.nx+(nxr - ids.length),rfl,hK,hcle,by show c.nx+_=_;rw [hnx],?_,hsame,?_⟩
 ·refine ⟨hs.keeps hs1.keep hD,λ i o ho=>?_,λ i j oi oj hi hj hij b l l' hb=>?_,λ i o ho b k hb=>?_,hs.old,λ b k hg=>?_,λ b k u he=>⟨(hs.res b k u he).1,λ k2 hg=>?_,(hs.aside hs1.keep hD he).1,(hs.aside hs1.keep hD he).2,λ i o ho k2 hb=>?_⟩,λ i o ho b k hb k2=>?_,λ i o ho x hx=>?_⟩
  ·rcases hcase i o ho with ⟨k,hi,hk1,o1,h1,h2,h3,h4,_⟩ | ⟨h1,h2,h3⟩
   ·refine ⟨h4,?_⟩
    rw [h2,h3]
    exact zvJ (c:=c) (c1:=c1) (c':=c') rfl hG hle hlo1 hlo2 (hfrOb k o1 h1) (hs1.own k o1 h1).2
   ·refine ⟨qc h3 (qbl _ _),?_⟩
    rw [hlow i h2 h3]
    refine (hs.own i o h1).2.mono hcle hsame λ b j hb=>?_
    have hlt:=hs.lt h1 hb
    have hn:=hold i o h1 h2 b j j hb
    exact ⟨hs1.keep.cell b j hlt hn,hs1.keep.frz b j hlt⟩
  ·rcases hcase i oi hi with ⟨k,ei,hk1,o1,h1,h2,h3,h4,_⟩ | ⟨h1,h2,h3⟩<;>rcases hcase j oj hj with ⟨k',ej,hk1',o1',h1',h2',h3',h4',_⟩ | ⟨h1',h2',h3'⟩
   ·rw [h3] at hb
    rw [h3']
    exact hs1.dis k k' _ _ h1 h1' (λ e=>hij (by rw [ei,ej,e])) b l l' hb
   ·rw [h3] at hb
    rw [hlow j h2' h3']
    intro hb'
    rcases (hsep1 k o1 h1 b l hb).2.2.2 with h | h
    ·exact hold j oj h1' h2' b _ _ hb' h.2
    ·have:=hs.lt h1' hb';omega
   ·rw [hlow i h2 h3] at hb
    rw [h3']
    intro hb'
    rcases (hsep1 k' o1' h1' b l' hb').2.2.2 with h | h
    ·exact hold i oi h1 h2 b _ _ hb h.2
    ·have:=hs.lt h1 hb;omega
   ·rw [hlow i h2 h3] at hb
    rw [hlow j h2' h3']
    exact hs.dis i j _ _ h1 h1' hij b _ _ hb
  ·rcases hcase i o ho with ⟨k',ei,hk1,o1,h1,h2,h3,h4,h5⟩ | ⟨h1,h2,h3⟩
   ·rw [h3] at hb
    obtain ⟨q1,q2,q3,q4⟩:=hsep1 k' o1 h1 b k hb
    refine ⟨q1,λ k2 h=>h.elim (q2 k2) (q3 k2),?_⟩
    rcases h5 with ⟨hk,q,hq,e1,e2⟩ | ⟨hk,e1,e2⟩
    ·rw [e1]
     rcases q4 with ⟨f1,f2⟩ | h
     ·obtain ⟨id,q',hid,hq',hin⟩:=hrw b k f2
      rcases (hs.sep _ _ hq' b k hin).2.2 with ⟨z1,z2⟩ | z
      ·cases hdb:zpq o1.2
       ·have hfl:zoL ids (hp s.H) q.1 o1.2=q.1:=by
         cases hq2:o1.2<;>rw [hq2] at hdb<;>first | rfl | cases hdb
        rw [hfl]
        have hsm:(c.loc (ids.getD k' 0)).same (c1.loc k'):=hle.loc k' hk
        have htop:inR (c.loc (ids[k'])) b k:=by
         rcases hb with ⟨t1,t2⟩ | hb
         ·have e:c.loc (ids.getD k' 0)=c.loc ids[k']:=by simp [hk]
          rw [← e]
          exact .inl ⟨t1.trans hsm.1,by rw [← hsm.2.2];exact t2⟩
         ·rw [(hs1.mo k' o1 h1 b hb).2] at hdb;cases hdb
        exact (hs.sep _ _ hq b k htop).2.2
       ·refine .inl ⟨?_,z2⟩
        have hfl:zoL ids (hp s.H) q.1 o1.2=(q.1 && znD (hp s.H) ids):=by
         cases hq2:o1.2<;>rw [hq2] at hdb<;>first | rfl | cases hdb
        rw [hfl]
        cases hal:znD (hp s.H) ids
        ·simp
        ·have:=zqp hal id hid q' hq'
         rw [z1] at this;cases this
      ·exact .inr z
     ·exact .inr (qx hs.keep.size h)
    ·rcases q4 with ⟨f1,f2⟩ | h
     ·obtain ⟨id,q,hid,hq,hin⟩:=hrw b k f2
      rw [e1,f1]
      rcases (hs.sep _ _ hq b k hin).2.2 with z | z
      ·refine .inl ⟨?_,z.2⟩
       cases hal:znD (hp s.H) ids
       ·rfl
       ·have:=zqp hal id hid q hq
        rw [z.1] at this;cases this
      ·exact .inr z
     ·exact .inr (qx hs.keep.size h)
   ·rw [hlow i h2 h3] at hb
    obtain ⟨q1,q2,q3⟩:=hs.sep i o h1 b k hb
    refine ⟨q1,λ k2 h=>h.elim (q2 k2) λ hg=>?_,q3⟩
    have:=(hs1.new b k2 hg).1
    have:=hs.lt h1 hb
    omega
  ·rcases hg with hg | hg
   ·exact ⟨(hs.new b k hg).1,qc (hs.new b k hg).2 hs1.keep.size⟩
   ·exact ⟨qx hs.keep.size (hs1.new b k hg).1,(hs1.new b k hg).2⟩
  ·have hlt:=zlz (hs.res b k u he).2.2.1
   rcases hg with hg | hg
   ·exact (hs.res b k u he).2.1 k2 hg
   ·have:=(hs1.new b k2 hg).1;omega
  ·have hlt:=zlz (hs.res b k u he).2.2.1
   rcases hcase i o ho with ⟨k',ei,hk1,o1,h1,h2,h3,h4,h5⟩ | ⟨h1,h2,h3⟩
   ·rw [h3] at hb
    rcases (hsep1 k' o1 h1 b k2 hb).2.2.2 with ⟨_,f2⟩ | h
    ·obtain ⟨id,q,hid,hq,hin⟩:=hrw b k2 f2
     exact (hs.res b k u he).2.2.2.2 id q hq k2 hin
    ·omega
   ·rw [hlow i h2 h3] at hb
    exact (hs.res b k u he).2.2.2.2 i o h1 k2 hb
  ·rcases hcase i o ho with ⟨k',ei,hk1,o1,h1,h2,h3,h4,h5⟩ | ⟨h1,h2,h3⟩
   ·rw [h3] at hb
    exact hs1.pl k' o1 h1 b k hb k2
   ·rw [hlow i h2 h3] at hb
    exact (hs1.keep.frz b k2 (hs.lt h1 hb)).trans (hs.pl i o h1 b k hb k2)
  ·rcases hcase i o ho with ⟨k',ei,hk1,o1,h1,h2,h3,h4,h5⟩ | ⟨h1,h2,h3⟩
   ·rw [h3] at hx
    obtain ⟨q1,q2⟩:=hs1.mo k' o1 h1 x hx
    refine ⟨q1,?_⟩
    rw [h2]
    cases hq2:o1.2<;>rw [hq2] at q2<;>first | rfl | cases q2
   ·rw [hlow i h2 h3] at hx
    exact ⟨qc (hs.mo i o h1 x hx).1 hs1.keep.size,(hs.mo i o h1 x hx).2⟩
 ·rw [← hnx]
  exact zAl (c:=c) (c1:=c1) (c':=c') rfl hG hle hlo1 hlo2 (hfr.imp id (·.1)) hcr
end Go.TL
namespace Go.TL
section
variable {α β σ ρ:Type}
def zvK (ns:List Int):ByteArray:=ns.foldl (λ s n=>s.push (UInt8.ofNat n.toNat)) ByteArray.empty
def zkk (p:Prop) [Decidable p] (k:Option α):Option α:=if p then k else none
theorem zj8 {p:Prop} [Decidable p] {k:Option α} {x:α} (h:zkk p k=some x):p∧k=some x:=by
 unfold zkk at h
 split at h
 ·exact ⟨‹_›,h⟩
 ·cases h
theorem zj9 {p:Prop} [Decidable p] (h:p) (k:Option α):zkk p k=k:=if_pos h
theorem zj7 {a:Option α} {f:α→Option β} {x:β} (h:a.bind f=some x):∃ t,a=some t∧f t=some x:=by
 cases a with
 | none=>cases h
 | some t=>exact ⟨t,rfl,h⟩
inductive Loops (step:σ→Option (σ⊕ρ)):Nat→σ→ρ→Prop
 | out {s:σ} {r:ρ} (h:step s=some (.inr r)):Loops step 0 s r
 | on {n:Nat} {s s':σ} {r:ρ} (h:step s=some (.inl s')) (k:Loops step n s' r):Loops step (n+1) s r
open Classical in
def zkx (step:σ→Option (σ⊕ρ)) (s:σ):Option ρ:=if h:∃ r n,Loops step n s r then some h.choose else none
theorem Loops.one {step:σ→Option (σ⊕ρ)} {n m:Nat} {s:σ} {r r':ρ} (h:Loops step n s r) (k:Loops step m s r'):r=r':=by
 induction h generalizing m with
 | out h=>cases k with
  | out h'=>rw [h] at h';cases h';rfl
  | on h' _=>rw [h] at h';cases h'
 | on h _ ih=>cases k with
  | out h'=>rw [h] at h';cases h'
  | on h' k'=>rw [h] at h';cases h';exact ih k'
theorem zpb {step:σ→Option (σ⊕ρ)} {s:σ} {r:ρ} (h:zkx step s=some r):∃ n,Loops step n s r:=by
 unfold zkx at h
 split at h
 ·rename_i hh
  cases h
  exact hh.choose_spec
 ·cases h
theorem ztG {step:σ→Option (σ⊕ρ)} {n:Nat} {s:σ} {r:ρ} (h:Loops step n s r):zkx step s=some r:=by
 have hh:∃ r n,Loops step n s r:=⟨r,n,h⟩
 unfold zkx
 rw [dif_pos hh]
 obtain ⟨m,hm⟩:=hh.choose_spec
 rw [hm.one h]
theorem zk3 {step:σ→Option (σ⊕ρ)} {s:σ} {r:ρ} (h:step s=some (.inr r)):zkx step s=some r:=ztG (.out h)
theorem zlQ {step:σ→Option (σ⊕ρ)} {s s':σ} (h:step s=some (.inl s')):zkx step s=zkx step s':=by
 cases hs:zkx step s' with
 | some r =>
  obtain ⟨n,hn⟩:=zpb hs
  exact ztG (.on h hn)
 | none =>
  cases hr:zkx step s with
  | none=>rfl
  | some r =>
   obtain ⟨n,hn⟩:=zpb hr
   cases hn with
   | out h'=>rw [h] at h';cases h'
   | on h' k=>rw [h] at h';cases h';rw [ztG k] at hs;cases hs
theorem zAn {step:σ→Option (σ⊕ρ)} (inv:σ→Prop) (meas:σ→Nat) (Q:ρ→Prop)
  (h:∀ s,inv s→(∃ s',step s=some (.inl s')∧inv s'∧meas s' < meas s)∨∃ r,step s=some (.inr r)∧Q r) {s:σ} (hs:inv s):∃ r,zkx step s=some r∧Q r:=by
 generalize hm:meas s=m
 induction m using Nat.strongRecOn generalizing s with
 | ind m ih =>
  rcases h s hs with ⟨s',h1,h2,h3⟩ | ⟨r,h1,h2⟩
  ·rw [zlQ h1];exact ih _ (hm ▸ h3) h2 rfl
  ·exact ⟨r,zk3 h1,h2⟩
def LK (step:σ→Option (σ⊕ρ)) (N:Nat) (x:σ⊕ρ) (r:ρ):Prop:=match x with
 | .inl s'=>∃ n,n < N∧Loops step n s' r
 | .inr r'=>r=r'
theorem Loops.round {step:σ→Option (σ⊕ρ)} {n:Nat} {s:σ} {r:ρ} (h:Loops step n s r):∃ x,step s=some x∧LK step n x r:=by
 cases h with
 | out h=>exact ⟨_,h,rfl⟩
 | on h k=>exact ⟨_,h,_,qk _,k⟩
def nth [Inhabited α] (l:List α) (n:Nat):α:=l.getD n default
end
def wI (n:Int):Int:=if 9223372036854775808≤n % 18446744073709551616 then n % 18446744073709551616 - 18446744073709551616 else n % 18446744073709551616
def wU (n:Int):Int:=n % 18446744073709551616
def wB (n:Int):Int:=n % 256
theorem zkU {n:Int} (h:-9223372036854775808≤n∧n≤9223372036854775807):wI n=n:=by
 unfold wI;split<;>omega
theorem wS {i:Nat} (h:i < 9223372036854775807):wI ((i:Int)+1)=((i+1:Nat):Int):=by rw [zkU (by omega)];omega
theorem zBg {n:Int} (h:0≤n∧n < 18446744073709551616):wU n=n:=by unfold wU;omega
def shR (bits:Nat) (a b:Int):Int:=a.fdiv (2 ^ (min b.toNat bits))
def zqY (bits:Nat) (a b:Int):Int:=((BitVec.ofInt bits a &&& BitVec.ofInt bits b).toNat:Int)
def bt (s:ByteArray) (i:Int):Int:=((s[i.toNat]?.getD 0).toNat:Int)
def zlc:List UInt8→List UInt8→Bool
 | _,[]=>false
 | [],_ :: _=>true
 | a :: r,b :: q=>a < b || (a == b && zlc r q)
def sLt (a b:ByteArray):Bool:=zlc a.toList b.toList
theorem nt {c:Bool} (h:c=false):¬ c=true:=by rw [h];exact Bool.false_ne_true
end Go.TL
namespace Go.TL
open Go
section
variable {P:Program} {s:St}
theorem OkT.str {t:Nat} {e:TE} (h:OkT P t e) (hs:e.sh=.str):P.underlying t=some .string:=by
 obtain ⟨d,hd,hsh⟩:=h.und
 rw [hs] at hsh
 cases d<;>simp [zmt] at hsh
 exact hd
theorem zvL {t:Nat} {e:TE} {x y:Operand} {b:ByteArray} {k:IntKind} {n:Int} (h:OkT P t e) (hs:e.sh=.str) (hx:sc? (ev s.T x)=some (.string b)) (hy:sc? (ev s.T y)=some (.int k n)) :
  Does P (.index t x y) s ⟨0≤n∧n < b.size,.lf false (.sc (.int .u8 (bt b n))),s.H,s.nx⟩:=by
 refine .quiet rfl rfl λ w0 W0 c a w hr ⟨h0,h1⟩=>?_
 have hx':=(zl3 hx (zkN hr x)).1
 have hy':=(zl3 hy (zkN hr y)).1
 refine ⟨_,λ o ho=>?_,.lf (.sc rfl)⟩
 unfold execOp
 rw [ho]
 have hlt:n.toNat < b.size:=by omega
 simp [hx',hy',Instr.index,asIntOf,zkS (h.str hs),h0,hlt,bt]
def zoO:LV→Option Int
 | .lf _ (.sc (.string b))=>some (b.size:Int)
 | .lf _ (.sl rows)=>some (rows.length:Int)
 | .nl=>some 0
 | .os _ _ _ len _ _=>some (len:Int)
 | _=>none
theorem zut {t:Nat} {e:TE} {c:Call} {x:Operand} {n:Int} (h:OkT P t e) (hs:e.sh=.str∨∃ el,e.sh=.slice el) (hc:c.callee=.builtin .len) (ha:c.args=#[x]) (ht:c.argTypes=#[t]) (hx:zoO (ev s.T x)=some n) :
  Does P (.call c) s ⟨(e.sh=.str↔∃ b,sc? (ev s.T x)=some (.string b)),.lf false (.sc (.int .i64 n)),s.H,s.nx⟩:=by
 refine .quiet rfl rfl λ w0 W0 cc a w hr hpre=>?_
 have hx':=zkN hr x
 refine ⟨.int .i64 n,λ o ho=>?_,.lf (.sc rfl)⟩
 unfold execOp
 rw [ho]
 simp only [resolve,hc,ha,ht,Sem.run_bind,Sem.run_pure,Result.andThen_ok,invoke,builtin,qbm,qp,qca]
 have hmain:(Builtin.len_ #[t] o.type #[a.eval x]).run P w=.ok (.int .i64 n) w:=by
  generalize ev s.T x=lv at hx hx' hpre
  generalize a.eval x=v at hx'
  rcases hs with hs | ⟨el,hs⟩
  ·obtain ⟨b,hb⟩:=hpre.1 hs
   have:=(zl3 hb hx').1
   subst this
   unfold sc? at hb
   split at hb
   ·cases hb
    cases hx
    simp [Builtin.len_,zkS (h.str hs),goInt]
   ·cases hb
  ·have hu:=h.slice hs
   have hno:∀ b,sc? lv≠some (.string b):=λ b hb=>by
    have:=hpre.2 ⟨b,hb⟩
    rw [hs] at this;cases this
   unfold zoO at hx
   split at hx
   ·exact absurd rfl (hno _)
   ·cases hx
    cases hx' with
    | lf hr=>cases hr with
     | nil=>simp [Builtin.len_,zkS hu,goInt]
     | sl=>simp [Builtin.len_,zkS hu,goInt]
   ·cases hx
    cases hx' with
    | nl a=>simp [Builtin.len_,zkS hu,goInt]
   ·cases hx
    cases hx' with
    | os=>simp [Builtin.len_,zkS hu,goInt]
   ·cases hx
 simp [hmain]
theorem zvM {t:Nat} {e et:TE} {x:Operand} {fs:List (Nat×Nat)} {f ft fo:Nat} {ls:List LV} (h:OkT P t e) (hs:e.sh=.struct fs) (hf:fs[f]?=some (ft,fo)) (ht:OkT P ft et) (hk:et.sh.known=true)
  (hx:ev s.T x=.ag ls) (hb:fo+et.size≤ls.length) (h1:et.sh.agg=false→0 < et.size):Does P (.field t x f) s ⟨True,znm et.sh.agg ((ls.drop fo).take et.size),s.H,s.nx⟩:=by
 refine .quiet rfl rfl λ w0 W0 c a w hr _=>?_
 have hx':=zkN hr x
 rw [hx] at hx'
 obtain ⟨flds,fl,hu,hfl,e1,e2⟩:=h.field hs hf
 generalize hv:a.eval x=v at hx'
 cases hx' with
 | ag cs hn hcs hc =>
  rename_i vs
  refine ⟨if et.sh.agg then .agg ((List.range et.size).map λ j=>cs (fo+j)).toArray else cs (fo+0),λ o ho=>?_,?_⟩
  ·unfold execOp
   rw [ho]
   have hag:=ht.runAgg hk w
   have hsz:=ht.runSize w
   rw [← e1] at hag hsz
   simp only [hv,Instr.field,Sem.run_bind,zkS hu,Result.andThen_ok,hfl,asAgg,Sem.run_pure,part,hag,e2]
   cases hg:et.sh.agg with
   | true =>
    simp only [if_true,Sem.run_bind,hsz,Result.andThen_ok,Sem.run_pure]
    have:vs.extract fo (fo+et.size)=((List.range et.size).map λ j=>cs (fo+j)).toArray:=by
     apply Array.ext
     ·simp;omega
     ·intro i h1 h2
      have hi:i < et.size:=by simpa using h2
      have:=hcs (fo+i) (by omega)
      have hlt:fo+i < vs.size:=by omega
      rw [Array.getElem?_eq_getElem hlt] at this
      simp only [Option.some.injEq] at this
      simp [this]
    rw [this]
   | false =>
    have:=hcs fo (by have:=h1 hg;omega)
    simp [this]
  ·have hlen:((ls.drop fo).take et.size).length=et.size:=by simp;omega
   have:=zou (agg:=et.sh.agg) (ls:=(ls.drop fo).take et.size) (w:=w) (c:=c) (cs:=λ j=>cs (fo+j)) (λ j hj=>by
    rw [hlen] at hj
    simp only [qm,qh]
    exact hc (fo+j) (by omega)) (by rw [hlen];exact h1)
   rw [hlen] at this
   exact this
theorem zsF {f:FuncId} {caps:Array Operand}:Does P (.makeFunc (.func f) #[] caps) s ⟨True,.fn f (caps.toList.map (ev s.T)),s.H,s.nx⟩:=by
 refine .quiet rfl rfl λ w0 W0 c a w hr _=>?_
 refine ⟨.func (.func f) #[] (caps.map a.eval),λ o ho=>?_,.fn (λ j=>a.eval (caps.getD j (.const undef))) (by simp) (λ j hj=>?_) λ j hj=>?_⟩
 ·unfold execOp
  rw [ho]
  simp [Instr.makeFunc]
 ·have hj':j < caps.size:=by simpa using hj
  simp [hj']
 ·have hj':j < caps.size:=by simpa using hj
  simp only [qi,qbt]
  have:caps.getD j (.const undef)=caps[j]:=by simp [hj']
  rw [this]
  exact zkN hr _
theorem OkT.int {t:Nat} {e:TE} {k:IntKind} (h:OkT P t e) (hs:e.sh=.int k):P.underlying t=some (.int k):=by
 obtain ⟨d,hd,hsh⟩:=h.und
 rw [hs] at hsh
 cases d<;>simp [zmt] at hsh
 subst hsh
 exact hd
theorem OkT.bool {t:Nat} {e:TE} (h:OkT P t e) (hs:e.sh=.bool):P.underlying t=some .bool:=by
 obtain ⟨d,hd,hsh⟩:=h.und
 rw [hs] at hsh
 cases d<;>simp [zmt] at hsh
 exact hd
theorem zqr {t u:Nat} {e f:TE} {x:Operand} {k k':IntKind} {n:Int} (ht:OkT P t e) (hte:e.sh=.int k') (hu:OkT P u f) (huf:f.sh=.int k) (hx:sc? (ev s.T x)=some (.int k' n)) :
  Does P (.convert t u x) s ⟨True,.lf false (.sc (.int k (k.wrap n))),s.H,s.nx⟩:=by
 refine .quiet rfl rfl λ w0 W0 c a w hr _=>?_
 have hx':=(zl3 hx (zkN hr x)).1
 refine ⟨_,λ o ho=>?_,.lf (.sc rfl)⟩
 unfold execOp
 rw [ho]
 simp [hx',convert,zkS (ht.int hte),zkS (hu.int huf),Conv.intToInt]
theorem zpS {t t':Nat} {e:TE} {x y:Operand} {p q:Bool} {op:BinOp} (ht:OkT P t e) (hte:e.sh=.bool) (hop:op=.eql∨op=.neq) (hx:sc? (ev s.T x)=some (.bool p)) (hy:sc? (ev s.T y)=some (.bool q)) :
  Does P (.binOp op t x y t') s ⟨True,.lf false (.sc (.bool (if op=.eql then p == q else !(p == q)))),s.H,s.nx⟩:=by
 refine .quiet rfl rfl λ w0 W0 c a w hr _=>?_
 have hx':=(zl3 hx (zkN hr x)).1
 have hy':=(zl3 hy (zkN hr y)).1
 refine ⟨_,λ o ho=>?_,.lf (.sc rfl)⟩
 unfold execOp
 rw [ho]
 have hg:=zsS (P:=P) (op:=op) (x:=.bool p) (y:=.bool q) rfl t x y w
 have he:(Op.equal t (.bool p) (.bool q)).run P w=.ok (p == q) w:=run_equalIn_bool' w 9999 t p q (ht.bool hte)
 rcases hop with rfl | rfl
 ·have h1:Go.binOp .eql t (.bool p) (.bool q)=(do pure (.bool (← Op.equal t (.bool p) (.bool q)))):=rfl
  simp only [hx',hy',Sem.run_bind,hg,Result.andThen_ok,h1,he,Sem.run_pure,if_true]
 ·have h1:Go.binOp .neq t (.bool p) (.bool q)=(do pure (.bool (!(← Op.equal t (.bool p) (.bool q))))):=rfl
  simp only [hx',hy',Sem.run_bind,hg,Result.andThen_ok,h1,he,Sem.run_pure]
  simp
end
end Go.TL
namespace Go.TL
open Go
def bnd (T:List (Nat×LV)):Option Operand→Option (Option (IntKind×Int))
 | none=>some none
 | some x=>match sc? (ev T x) with
  | some (.int k n)=>some (some (k,n))
  | _=>none
def bv (x:Option (IntKind×Int)):Option Value:=x.map λ p=>.int p.1 p.2
def zkA (x:Option (IntKind×Int)):Int:=match x with | some p=>p.2 | none=>0
def zku (x:Option (IntKind×Int)) (n:Int):Int:=match x with | some p=>p.2 | none=>n
section
variable {P:Program} {s:St}
theorem zmN {w0 w:World} {W0:Fr} {c:Ctx} {a:Act} (hr:Rel w0 W0 c s a w) {x:Option Operand} {b:Option (IntKind×Int)} (h:bnd s.T x=some b):x.map a.eval=bv b:=by
 cases x with
 | none=>cases h;rfl
 | some x =>
  simp only [bnd] at h
  split at h
  ·rename_i k n hx
   cases h
   simp [bv,(zl3 hx (zkN hr x)).1]
  ·cases h
theorem zno {isS:Bool} {len cap:Nat} {lo hi mx:Option (IntKind×Int)} {w:World} (hc:len≤cap) (h0:0≤zkA lo) (h1:zkA lo≤zku hi len) (h2:zku hi len≤zku mx cap) (h3:zku mx cap≤cap) (hm:mx.isSome=true→hi.isSome=true) :
  (Instr.sliceBounds isS len cap (bv lo) (bv hi) (bv mx)).run P w=.ok ((zkA lo).toNat,(zku hi len).toNat,(zku mx cap).toNat) w:=by
 unfold Instr.sliceBounds
 cases mx with
 | none =>
  cases hi with
  | none =>
   cases lo with
   | none=>simp [bv,zkA,zku]
   | some l =>
    simp only [zkA,zku] at *
    simp [bv,run_sliceBound,h0,(by omega:l.2≤(len:Int))]
  | some h =>
   cases lo with
   | none =>
    simp only [zkA,zku] at *
    simp [bv,run_sliceBound,h1,h2]
   | some l =>
    simp only [zkA,zku] at *
    have e:((h.2.toNat:Nat):Int)=h.2:=qbh (by omega)
    simp [bv,run_sliceBound,h0,h2,e,h1,(by omega:0≤h.2)]
 | some m =>
  cases hi with
  | none=>simp at hm
  | some h =>
   have em:((m.2.toNat:Nat):Int)=m.2:=by simp only [zkA,zku] at *;exact qbh (by omega)
   have eh:((h.2.toNat:Nat):Int)=h.2:=by simp only [zkA,zku] at *;exact qbh (by omega)
   cases lo with
   | none =>
    simp only [zkA,zku] at *
    simp [bv,run_sliceBound,h1,h2,h3,em,(by omega:0≤m.2)]
   | some l =>
    simp only [zkA,zku] at *
    simp [bv,run_sliceBound,h0,h1,h2,h3,em,eh,(by omega:0≤m.2),(by omega:0≤h.2)]
theorem ztH {t:Nat} {e:TE} {x:Operand} {lo hi:Option Operand} {b:ByteArray} {l h:Option (IntKind×Int)} (ht:OkT P t e) (hs:e.sh=.str) (hx:sc? (ev s.T x)=some (.string b)) (hl:bnd s.T lo=some l) (hh:bnd s.T hi=some h) :
  Does P (.slice t x lo hi none) s ⟨0≤zkA l∧zkA l≤zku h b.size∧zku h b.size≤b.size,.lf false (.sc (.string (b.extract (zkA l).toNat (zku h b.size).toNat))),s.H,s.nx⟩:=by
 refine .quiet rfl rfl λ w0 W0 c a w hr ⟨h0,h1,h2⟩=>?_
 have hx':=(zl3 hx (zkN hr x)).1
 have el:=zmN hr hl
 have eh:=zmN hr hh
 refine ⟨_,λ o ho=>?_,.lf (.sc rfl)⟩
 unfold execOp
 rw [ho]
 have hb:=zno (P:=P) (isS:=false) (len:=b.size) (cap:=b.size) (lo:=l) (hi:=h) (mx:=none) (w:=w) (qg _) h0 h1 (by simpa [zku] using h2) (by simp [zku]) (by simp)
 simp only [bv,qbf] at hb
 simp only [hx',el,eh,qbf,Instr.sliceAt,Sem.run_bind,zkS (ht.str hs),Result.andThen_ok,Instr.slice,Option.isSome_none,qbx,if_false,bv,hb,Sem.run_pure,Sem.run_ite]
theorem zAo {w:World} {S:zkF} {a:Option Addr} {len cap:Nat} {rows:List (List Leaf)} (hr:RepL w S (.slice a len cap) (.sl rows)) {l h m size:Nat} (hlh:l≤h) (hh:h≤rows.length) (hm:h≤m) (hmc:m≤cap) (hes:0 < l→∀ r∈rows,r.length=size) :
  RepL w S (.slice (if m=l then a else a.map (·.add (l * size))) (h - l) (m - l)) (.sl ((rows.drop l).take (h - l))):=by
 by_cases he:h - l=0
 ·rw [he,qbi];exact .nil
 generalize hL:Leaf.sl rows=L at hr
 cases hr with
 | sc hs=>cases hL
 | raw=>cases hL
 | nil=>cases hL;simp at hh;omega
 | sl cs hes' hcap hS hrp =>
  cases hL
  rename_i b off es
  have hml:¬ m=l:=by omega
  rw [if_neg hml]
  have hsz:l * size=l * es:=by
   rcases qu l with h0 | h0
   ·rw [h0];simp
   ·have h1:=hes h0 (rows[l]) (qa (by omega))
    have h2:=hes' (rows[l]) (qa (by omega))
    rw [← h1,h2]
  simp only [qn,zmi,hsz]
  have hlen:((rows.drop l).take (h - l)).length=h - l:=by simp;omega
  have:=@RepL.sl w S b (off+l * es) (m - l) es ((rows.drop l).take (h - l)) (λ i j=>cs (l+i) j) (λ r hr=>hes' r (qz (qba hr))) (by omega)
   (λ i j hi hj=>by
    have:=hS (l+i) j (by omega) hj
    rw [qd,qb (l * es)] at this
    rw [qb]
    exact this)
   (λ i j hi hj=>by
    simp only [qm,qh]
    exact hrp (l+i) j (by omega) (by simpa using hj))
  rw [hlen] at this
  exact this
theorem zuu {t el:Nat} {e ee:TE} {x:Operand} {lo hi:Option Operand} {tt:Bool} {rows:List (List Leaf)} {l h:Option (IntKind×Int)} (ht:OkT P t e) (hs:e.sh=.slice el) (he:OkT P el ee) (hx:ev s.T x=.lf tt (.sl rows))
  (hl:bnd s.T lo=some l) (hh:bnd s.T hi=some h) :
  Does P (.slice t x lo hi none) s ⟨(0≤zkA l∧zkA l≤zku h rows.length∧zku h rows.length≤rows.length)∧(0 < zkA l→∀ r∈rows,r.length=ee.size),
   .lf tt (.sl ((rows.drop (zkA l).toNat).take ((zku h rows.length).toNat - (zkA l).toNat))),s.H,s.nx⟩:=by
 refine .quiet rfl rfl λ w0 W0 c a w hr ⟨⟨h0,h1,h2⟩,hes⟩=>?_
 have hx':=zkN hr x
 rw [hx] at hx'
 have ebl:=zmN hr hl
 have ebh:=zmN hr hh
 generalize hxv:a.eval x=xv at hx'
 cases hx' with
 | lf hrep =>
  have hsh:∃ ad cap,xv=.slice ad rows.length cap∧rows.length≤cap:=by
   generalize hL:Leaf.sl rows=L at hrep
   cases hrep with
   | sc hs=>cases hL
   | raw=>cases hL
   | nil=>cases hL;exact ⟨_,_,rfl,qbq _⟩
   | sl cs hes' hcap hS hrp=>cases hL;exact ⟨_,_,rfl,hcap⟩
  obtain ⟨ad,cap,rfl,hcap⟩:=hsh
  refine ⟨_,λ o ho=>?_,.lf (zAo hrep (l:=(zkA l).toNat) (h:=(zku h rows.length).toNat) (m:=cap) (size:=ee.size) (by omega) (by omega) (by omega) (qg _) λ h=>hes (by omega))⟩
  unfold execOp
  rw [ho]
  have hb:=zno (P:=P) (isS:=true) (len:=rows.length) (cap:=cap) (lo:=l) (hi:=h) (mx:=none) (w:=w) hcap h0 h1 (by simp only [zku] at *;omega) (by simp [zku]) (by simp)
  simp only [bv,qbf,zku,Int.toNat_natCast] at hb
  simp only [hxv,ebl,ebh,qbf,Instr.sliceAt,Sem.run_bind,zkS (ht.slice hs),Result.andThen_ok,Instr.slice,bv,hb,he.runSize,Sem.run_pure,zku]
theorem zuv {t el:Nat} {e ee:TE} {x:Operand} {lo hi mx:Option Operand} {id es o0 len mc:Nat} {ex:Bool} {l h m:Option (IntKind×Int)} (ht:OkT P t e) (hs:e.sh=.slice el) (he:OkT P el ee) (hes:ee.size=es) (hx:ev s.T x=.os id es o0 len mc ex)
  (hl:bnd s.T lo=some l) (hh:bnd s.T hi=some h) (hm:bnd s.T mx=some m) (hm2:m.isSome=true→h.isSome=true) :
  Does P (.slice t x lo hi mx) s ⟨0≤zkA l∧zkA l≤zku h len∧zku h len≤zku m (max len mc)∧zku m (max len mc)≤max len mc,
   .os id es (o0+(zkA l).toNat) ((zku h len).toNat - (zkA l).toNat) ((zku m (max len mc)).toNat - (zkA l).toNat) (ex || m.isSome),s.H,s.nx⟩:=by
 refine .quiet rfl rfl λ w0 W0 c a w hr ⟨h0,h1,h2,h3⟩=>?_
 have hx':=zkN hr x
 rw [hx] at hx'
 have ebl:=zmN hr hl
 have ebh:=zmN hr hh
 have ebm:=zmN hr hm
 generalize hxv:a.eval x=xv at hx'
 cases hx' with
 | os hid hln hmc hex ha hn =>
  rename_i cap ad
  have hmx:zku m (max len mc)≤zku m cap∧zku m cap≤cap:=by
   cases m with
   | none=>simp only [zku] at *;omega
   | some p=>simp only [zku] at *;omega
  refine ⟨.slice (if (zku m cap).toNat=(zkA l).toNat then ad else ad.map (·.add ((zkA l).toNat * es))) ((zku h len).toNat - (zkA l).toNat) ((zku m cap).toNat - (zkA l).toNat),λ o ho=>?_,?_⟩
  ·unfold execOp
   rw [ho]
   have hb:=zno (P:=P) (isS:=true) (len:=len) (cap:=cap) (lo:=l) (hi:=h) (mx:=m) (w:=w) hln h0 h1 (by omega) hmx.2 hm2
   simp only [hxv,ebl,ebh,ebm,Instr.sliceAt,Sem.run_bind,zkS (ht.slice hs),Result.andThen_ok,Instr.slice,hb,he.runSize,Sem.run_pure,hes]
  ·refine .os hid (by omega) (by omega) (λ hx=>?_) ?_ ?_
   ·rw [Bool.or_eq_true] at hx
    rcases hx with hx | hx
    ·have:=hex hx
     cases m with
     | none=>simp only [zku] at *;omega
     | some p=>simp only [zku] at *
    ·cases m with
     | none=>simp at hx
     | some p=>simp only [zku] at *
   ·by_cases hz:(zku m cap).toNat - (zkA l).toNat=0
    ·exact .inl hz
    ·right
     rcases ha with hc0 | rfl
     ·omega
     ·rw [if_neg (by omega)]
      simp only [qn,zmi,qd,qb]
   ·have hle:(zkA l).toNat+((zku m cap).toNat - (zkA l).toNat)≤cap:=by omega
    have:=qf es hle
    rw [qd] at this
    rw [qd]
    omega
theorem zuw {t el:Nat} {e ee:TE} {x:Operand} {lo hi mx:Option Operand} {l h m:Option (IntKind×Int)} (ht:OkT P t e) (hs:e.sh=.slice el) (he:OkT P el ee) (hx:ev s.T x=.nl)
  (hl:bnd s.T lo=some l) (hh:bnd s.T hi=some h) (hm:bnd s.T mx=some m) (hm2:m.isSome=true→h.isSome=true):Does P (.slice t x lo hi mx) s ⟨zkA l=0∧zku h 0=0∧zku m 0=0,.nl,s.H,s.nx⟩:=by
 refine .quiet rfl rfl λ w0 W0 c a w hr ⟨h0,h1,h2⟩=>?_
 have hx':=zkN hr x
 rw [hx] at hx'
 have ebl:=zmN hr hl
 have ebh:=zmN hr hh
 have ebm:=zmN hr hm
 generalize hxv:a.eval x=xv at hx'
 cases hx' with
 | nl ad =>
  refine ⟨.slice ad 0 0,λ o ho=>?_,.nl _⟩
  unfold execOp
  rw [ho]
  have hb:=zno (P:=P) (isS:=true) (len:=0) (cap:=0) (lo:=l) (hi:=h) (mx:=m) (w:=w) (qg _) (by omega) (by simp;omega) (by simp;omega) (by simp;omega) hm2
  simp only [Int.natCast_zero] at hb
  simp only [hxv,ebl,ebh,ebm,Instr.sliceAt,Sem.run_bind,zkS (ht.slice hs),Result.andThen_ok,Instr.slice,hb,he.runSize,Sem.run_pure,h0,h1,h2]
  simp
theorem znW {t el:Nat} {e ee:TE} {x:Operand} {lo hi mx:Option Operand} {l h m:Option (IntKind×Int)} {n:Int} (ht:OkT P t e) (hs:e.sh=.slice el) (he:OkT P el ee) (hx:zoO (ev s.T x)=some n)
  (hl:bnd s.T lo=some l) (hh:bnd s.T hi=some h) (hm:bnd s.T mx=some m) (h0:zkA l=0) (h1:∃ k,h=some (k,0)) (h2:∃ k,m=some (k,0)) (hns:∀ b,sc? (ev s.T x)≠some (.string b)):Does P (.slice t x lo hi mx) s ⟨True,.nl,s.H,s.nx⟩:=by
 refine .quiet rfl rfl λ w0 W0 c a w hr _=>?_
 obtain ⟨k1,rfl⟩:=h1
 obtain ⟨k2,rfl⟩:=h2
 have hx':=zkN hr x
 have ebl:=zmN hr hl
 have ebh:=zmN hr hh
 have ebm:=zmN hr hm
 have hsh:∃ ad len cap,a.eval x=.slice ad len cap∧len≤cap:=by
  generalize a.eval x=v at hx'
  generalize ev s.T x=lv at hx hx' hns
  unfold zoO at hx
  split at hx
  ·exact absurd rfl (hns _)
  ·cases hx' with
   | lf hr=>cases hr with
    | nil=>exact ⟨_,_,_,rfl,qbq _⟩
    | sl cs hes' hcap hS hrp=>exact ⟨_,_,_,rfl,hcap⟩
  ·cases hx' with
   | nl ad=>exact ⟨_,_,_,rfl,qg _⟩
  ·cases hx' with
   | os hid hln hmc hex ha hn=>exact ⟨_,_,_,rfl,hln⟩
  ·cases hx
 obtain ⟨ad,len,cap,hv,hlc⟩:=hsh
 refine ⟨.slice ad 0 0,λ o ho=>?_,.nl _⟩
 unfold execOp
 rw [ho]
 have hb:=zno (P:=P) (isS:=true) (len:=len) (cap:=cap) (lo:=l) (hi:=some (k1,0)) (mx:=some (k2,0)) (w:=w) hlc (by omega) (by simp [zku];omega) (by simp [zku]) (by simp [zku]) (by simp)
 simp only [hv,ebl,ebh,ebm,Instr.sliceAt,Sem.run_bind,zkS (ht.slice hs),Result.andThen_ok,Instr.slice,hb,he.runSize,Sem.run_pure,h0,zku]
 simp
end
end Go.TL
namespace Go.TL
open Go
def zlR (H:zkO):LV→Option (Bool×List (List Leaf))
 | .lf t (.sl rows)=>some (t,rows)
 | .nl=>some (false,[])
 | .os id es lo len _ _=>match H id with
  | some (_,.arr t es' rows)=>if es'=es∧lo+len≤rows.length then some (t,(rows.drop lo).take len) else none
  | _=>none
 | _=>none
def CellsOf (w:World) (S:zkF) (es:Nat) (cs:List Value) (rows:List (List Leaf)):Prop :=
 cs.length=rows.length * es∧(∀ r∈rows,r.length=es)∧∀ i j (hi:i < rows.length) (hj:j < (rows[i]).length) v,cs[i * es+j]?=some v→RepL w S v ((rows[i])[j])
theorem zwB {w:World} {S:zkF} {v:Value} {l:Leaf} (h:RepL w S v l):v.oneCell'=true:=by
 cases h with
 | sc h=>revert h;cases v<;>simp [zpm,Value.oneCell']
 | nil=>rfl
 | sl=>rfl
 | raw h=>exact h
theorem CellsOf.one {w:World} {S:zkF} {es:Nat} {cs:List Value} {rows:List (List Leaf)} (h:CellsOf w S es cs rows):∀ u∈cs,u.oneCell'=true:=by
 intro u hu
 obtain ⟨k,hk,rfl⟩:=qo hu
 obtain ⟨h1,h2,h3⟩:=h
 rcases qu es with h0 | h0
 ·rw [h0] at h1;simp at h1;rw [h1] at hk;simp at hk
 have hi:k / es < rows.length:=by rw [qbr h0];omega
 have hj:k % es < es:=qbu _ h0
 have hj':k % es < (rows[k / es]).length:=by rw [h2 _ (qa hi)];exact hj
 have he:k / es * es+k % es=k:=by rw [qbg];exact qci k es
 exact zwB (h3 (k / es) (k % es) hi hj' _ (by rw [he];simp [hk]))
theorem CellsOf.mono {w w':World} {S S':zkF} {es:Nat} {cs:List Value} {rows:List (List Leaf)} (h:CellsOf w S es cs rows) (hs:∀ b k,S b k→S' b k) (hc:∀ b k,S b k→w'.cell? ⟨b,k,none⟩=w.cell? ⟨b,k,none⟩):CellsOf w' S' es cs rows :=
 ⟨h.1,h.2.1,λ i j hi hj v hv=>(h.2.2 i j hi hj v hv).mono hs hc⟩
theorem CellsOf.append {w:World} {S:zkF} {es:Nat} {cs ds:List Value} {rows qs:List (List Leaf)} (h:CellsOf w S es cs rows) (k:CellsOf w S es ds qs):CellsOf w S es (cs++ds) (rows++qs):=by
 obtain ⟨h1,h2,h3⟩:=h
 obtain ⟨k1,k2,k3⟩:=k
 refine ⟨by rw [qM,qM,h1,k1,qd],λ r hr=>?_,λ i j hi hj v hv=>?_⟩
 ·rw [qw] at hr
  rcases hr with hr | hr
  ·exact h2 r hr
  ·exact k2 r hr
 ·by_cases hlt:i < rows.length
  ·have hj':j < (rows[i]).length:=by rw [qbk hlt] at hj;exact hj
   have hje:j < es:=by rw [← h2 _ (qa hlt)];exact hj'
   have:=zk1 hlt hje
   rw [List.getElem?_append_left (by omega)] at hv
   have:=h3 i j hlt hj' v hv
   simpa [qbk hlt] using this
  ·have hi':i - rows.length < qs.length:=by rw [qM] at hi;omega
   have hj':j < (qs[i - rows.length]).length:=by rw [qbj (by omega)] at hj;exact hj
   have hle:rows.length * es≤i * es:=qf es (by omega)
   rw [List.getElem?_append_right (by omega),show i * es+j - cs.length=(i - rows.length) * es+j by rw [h1,Nat.sub_mul];omega] at hv
   have:=k3 (i - rows.length) j hi' hj' v hv
   simpa [qbj (show rows.length≤i by omega)] using this
theorem CellsOf.nil {w:World} {S:zkF} {es:Nat}:CellsOf w S es [] []:=⟨by simp,λ r hr=>by simp at hr,λ i j hi=>by simp at hi⟩
theorem zqZ {w:World} {c:Ctx} {L:Loc} {t:Bool} {es:Nat} {rows:List (List Leaf)} (h:Holds w c L (.arr t es rows)) {lo len:Nat} (hl:lo+len≤rows.length) :
  ∃ cs:List Value,CellsOf w (c.fs t) es cs ((rows.drop lo).take len)∧∀ j v,cs[j]?=some v→w.cell? ⟨L.b,L.base+lo * es+j,none⟩=some v:=by
 obtain ⟨g1,g0,g2,g3⟩:=h
 have hN:lo * es+len * es≤L.n:=by
  have:=qf es hl
  rw [qd] at this
  omega
 have hlen:((rows.drop lo).take len).length=len:=by simp;omega
 refine ⟨(List.range (len * es)).map λ j=>(w.cell? ⟨L.b,L.base+lo * es+j,none⟩).getD undef,⟨by simp [hlen],λ r hr=>g0 r (qz (qba hr)),λ i j hi hj v hv=>?_⟩,λ j v hv=>?_⟩
 ·have hi':lo+i < rows.length:=by omega
  have hje:j < es:=by rw [← g0 _ (qa hi')];simpa using hj
  have hlt:=zk1 (n:=len) (i:=i) (by omega) hje
  obtain ⟨u,hu,_⟩:=g2 (lo * es+(i * es+j)) (by omega)
  have h3:=g3 (lo+i) j hi' (by rw [g0 _ (qa hi')];exact hje) u (by rw [qd,qb];exact hu)
  rw [← qb] at hu
  have:some v=some u:=by
   rw [← hv]
   simp [hlt,hu]
  cases this
  simp only [qm,qh]
  exact h3
 ·by_cases hlt:j < len * es
  ·obtain ⟨u,hu,_⟩:=g2 (lo * es+j) (by omega)
   rw [← qb] at hu
   have:some v=some u:=by
    rw [← hv]
    simp [hlt,hu]
   cases this
   exact hu
  ·rw [List.getElem?_eq_none (by simp;omega)] at hv
   cases hv
theorem zvN {w0 w:World} {W0:Fr} {c:Ctx} {H:zkO} (s:Sit w0 W0 c H w) {lv:LV} {v:Value} {t:Bool} {rows:List (List Leaf)} {es:Nat} (h:zlR H lv=some (t,rows)) (hes:∀ r∈rows,r.length=es) (hc:Cv w c lv v) :
  ∃ (a:Option Addr) (cap:Nat) (cs:List Value),v=.slice a rows.length cap∧rows.length≤cap∧CellsOf w (c.fs t) es cs rows∧(rows.length≠0→∃ b o,a=some ⟨b,o,none⟩∧∀ j u,cs[j]?=some u→w.cell? ⟨b,o+j,none⟩=some u):=by
 unfold zlR at h
 split at h
 ·cases h
  cases hc with
  | lf hr =>
   generalize hL:Leaf.sl rows=L at hr
   cases hr with
   | sc hs=>cases hL
   | raw=>cases hL
   | nil=>cases hL;exact ⟨_,_,[],rfl,qbq _,.nil,λ h=>absurd rfl h⟩
   | sl cs hes' hcap hS hrp =>
    cases hL
    rename_i b off cap es'
    by_cases h0:rows.length=0
    ·have:rows=[]:=qe h0
     subst this
     exact ⟨_,_,[],rfl,qbq _,.nil,λ h=>absurd rfl h⟩
    have hee:es'=es:=by
     have h1:=hes (rows[0]) (qa (by omega))
     have h2:=hes' (rows[0]) (qa (by omega))
     omega
    subst hee
    refine ⟨_,_,(List.range (rows.length * es')).map λ k=>cs (k / es') (k % es'),rfl,hcap,⟨by simp,hes',λ i j hi hj u hu=>?_⟩,λ _=>⟨b,off,rfl,λ k u hu=>?_⟩⟩
    ·have hje:j < es':=by rw [← hes' _ (qa hi)];exact hj
     have hlt:=zk1 hi hje
     have e1:(i * es'+j) / es'=i:=by rw [qbg,Nat.mul_add_div (by omega),Nat.div_eq_of_lt hje,qv]
     have e2:(i * es'+j) % es'=j:=by rw [qbg,qcj,qch hje]
     simp only [List.getElem?_map,List.getElem?_range hlt,qn,e1,e2,Option.some.injEq] at hu
     rw [← hu]
     exact hrp i j hi hj
    ·by_cases hlt:k < rows.length * es'
     ·have hp:0 < es':=by
       rcases qu es' with h | h
       ·rw [h] at hlt;simp at hlt
       ·exact h
      have hi:k / es' < rows.length:=by rw [qbr hp];exact hlt
      have hj:=qbu k hp
      have:=(hS (k / es') (k % es') hi hj).2
      rw [show k / es' * es'+k % es'=k by rw [qbg];exact qci k es'] at this
      simp only [List.getElem?_map,List.getElem?_range hlt,qn,Option.some.injEq] at hu
      rw [← hu]
      exact this
     ·rw [List.getElem?_eq_none (by simp;omega)] at hu
      cases hu
 ·cases h
  cases hc with
  | nl a=>exact ⟨a,0,[],rfl,qg _,.nil,λ h=>absurd rfl h⟩
 ·rename_i id es0 lo len mc ex
  split at h
  ·rename_i fr t' es' rows' ho
   split at h
   ·rename_i hcond
    obtain ⟨rfl,hlen⟩:=hcond
    cases h
    cases hc with
    | os hid hl hm hx ha hn =>
     rename_i cap a
     have hl2:((rows'.drop lo).take len).length=len:=by simp;omega
     have hH:Holds w c (c.loc id) (.arr t es' rows'):=(s.own _ _ ho).2
     obtain ⟨cs,h1,h2⟩:=zqZ hH hlen
     refine ⟨a,cap,cs,by rw [hl2],by rw [hl2];exact hl,?_,λ h0=>?_⟩
     ·by_cases hz:len=0
      ·subst hz
       rw [qbi] at h1 ⊢
       have:cs=[]:=qe (by rw [h1.1];simp)
       subst this
       exact .nil
      ·have:es'=es:=by
        rw [← hes _ (qa (show 0 < ((rows'.drop lo).take len).length by omega)),← h1.2.1 _ (qa (show 0 < ((rows'.drop lo).take len).length by omega))]
       rw [← this]
       exact h1
     ·rw [hl2] at h0
      rcases ha with h3 | rfl
      ·omega
      ·exact ⟨_,_,rfl,h2⟩
   ·cases h
  ·cases h
 ·cases h
section
variable {P:Program} {s:St}
theorem zmO {t u ty el:Nat} {i:TypeInfo} {el2:Nat} (ht:P.underlying t=some (.slice el)) (hu:P.underlying u=some (.slice el2)) (hi:P.info? el=some i) {w:World} {base:Option Addr} {sLen sCap n cap:Nat} {a:Option Addr} {news:List Value}
  (hn:news.length=n * i.size) (hnews:n≠0→∃ b o,a=some ⟨b,o,none⟩∧∀ j v,news[j]?=some v→w.cell? ⟨b,o+j,none⟩=some v) (hroom:sLen+n≤sCap) {b o:Nat} (hb:n≠0→base=some ⟨b,o,none⟩)
  (hc:∀ j,j < news.length→(w.cell? ⟨b,o+(sLen * i.size+j),none⟩).isSome=true∧w.frozen? ⟨b,o+(sLen * i.size+j),none⟩=false) (h1:∀ v∈news,v.oneCell'=true) :
  (Builtin.append_ #[t,u] ty #[.slice base sLen sCap,.slice a n cap]).run P w=.ok (.slice base (sLen+n) sCap) (w.setCells b (o+sLen * i.size) news):=by
 by_cases h0:n=0
 ·subst h0
  have hnil:news=[]:=qe (by rw [hn];simp)
  subst hnil
  have hf:(Builtin.firstCells i.size 0 (.slice a 0 cap)).run P w=.ok #[] w:=by
   cases a with
   | none=>simp [Builtin.firstCells]
   | some x=>simp [Builtin.firstCells,loadCells,loadCellsFrom]
  have hr:sLen≤sCap:=hroom
  cases base with
  | none=>simp [Builtin.append_,zkS ht,zkS hu,sizeOf,typeInfo,hi,Builtin.lenOf,hr,hf,World.setCells]
  | some x=>simp [Builtin.append_,zkS ht,zkS hu,sizeOf,typeInfo,hi,Builtin.lenOf,hr,hf,World.setCells,storeCells]
 ·obtain ⟨b',o',rfl,hcell⟩:=hnews h0
  have hbb:=hb h0
  subst hbb
  have hf:=run_firstCells_some (P:=P) w i.size n ⟨b',o',none⟩ n cap news hn (λ j v hv=>by rw [zmi];exact hcell j v hv)
  have hst:=run_storeCells_cells (P:=P) b (o+sLen * i.size) news 0 w (λ j hj=>by rw [qv,qb];exact (hc j hj).1) (λ j hj=>by rw [qv,qb];exact (hc j hj).2) h1
  rw [qv] at hst
  have hf':(Builtin.firstCells i.size n (.slice (some ⟨b',o',none⟩) n cap)).run P w=.ok news.toArray w:=hf
  simp [Builtin.append_,zkS ht,zkS hu,sizeOf,typeInfo,hi,Builtin.lenOf,hroom,hf',zmi,hst]
theorem zmo {t u ty el:Nat} {i:TypeInfo} {z:Value} {el2:Nat} (ht:P.underlying t=some (.slice el)) (hu:P.underlying u=some (.slice el2)) (hi:P.info? el=some i) (hzv:i.zero=some z) {w:World} {base:Option Addr} {sLen sCap n cap:Nat} {a:Option Addr} {olds news:List Value}
  (ho:olds.length=sLen * i.size) (holds:sLen≠0→∃ b o,base=some ⟨b,o,none⟩∧∀ j v,olds[j]?=some v→w.cell? ⟨b,o+j,none⟩=some v)
  (hn:news.length=n * i.size) (hnews:n≠0→∃ b o,a=some ⟨b,o,none⟩∧∀ j v,news[j]?=some v→w.cell? ⟨b,o+j,none⟩=some v) (hg:sCap < sLen+n) (hfit:(sLen+n) * i.bytes≤140737488355328) (h63:((sLen+n:Nat):Int)≤9223372036854775807) :
  (Builtin.append_ #[t,u] ty #[.slice base sLen sCap,.slice a n cap]).run P w =
   .ok (.slice (some ⟨w.heap.size,0,none⟩) (sLen+n) (grownCap w (sLen+n) sCap el)) (w.drew.alloc (.cells (olds.toArray++news.toArray++Builtin.zeroCells z.cells (grownCap w (sLen+n) sCap el - (sLen+n))) el)):=by
 have hf:(Builtin.firstCells i.size n (.slice a n cap)).run P w.drew=.ok news.toArray w.drew:=by
  by_cases h0:n=0
  ·subst h0
   have hnil:news=[]:=qe (by rw [hn];simp)
   subst hnil
   cases a with
   | none=>simp [Builtin.firstCells]
   | some x=>simp [Builtin.firstCells,loadCells,loadCellsFrom]
  ·obtain ⟨b',o',rfl,hcell⟩:=hnews h0
   exact run_firstCells_some (P:=P) w.drew i.size n ⟨b',o',none⟩ n cap news hn (λ j v hv=>by rw [zmi];exact hcell j v hv)
 have hfo:(Builtin.firstCells i.size sLen (.slice base sLen sCap)).run P w.drew=.ok olds.toArray w.drew:=by
  by_cases h0:sLen=0
  ·subst h0
   have hnil:olds=[]:=qe (by rw [ho];simp)
   subst hnil
   cases base with
   | none=>simp [Builtin.firstCells]
   | some x=>simp [Builtin.firstCells,loadCells,loadCellsFrom]
  ·obtain ⟨b',o',rfl,hcell⟩:=holds h0
   exact run_firstCells_some (P:=P) w.drew i.size sLen ⟨b',o',none⟩ sLen sCap olds ho (λ j v hv=>by rw [zmi];exact hcell j v hv)
 have hng:¬ (sLen+n≤sCap):=by omega
 have h63':¬ (9223372036854775807 < ((sLen:Int)+(n:Int))):=by omega
 have h48':¬ (281474976710656 < Builtin.nextslicecap (sLen+n) sCap * i.bytes):=by have:=growslice_fits hg hfit;omega
 simp [Builtin.append_,zkS ht,zkS hu,sizeOf,typeInfo,zeroValue,hi,hzv,Builtin.lenOf,hng,h63',h48',Question.forced,hf,hfo,newRow,grownCap]
 congr 2
 apply Array.ext'
 simp [qcb]
end
end Go.TL
namespace Go.TL
open Go
theorem zq0 {w:World} {c:Ctx} {L:Loc} {t:Bool} {es:Nat} {rows:List (List Leaf)} {cs:List Value} (h:CellsOf w (c.fs t) es cs rows) (hn:rows.length * es≤L.n)
  (hL:∀ j,j < L.n→∃ v,w.cell? ⟨L.b,L.base+j,none⟩=some v∧w.frozen? ⟨L.b,L.base+j,none⟩=false) (hc:∀ j v,cs[j]?=some v→w.cell? ⟨L.b,L.base+j,none⟩=some v):Holds w c L (.arr t es rows):=by
 obtain ⟨h1,h2,h3⟩:=h
 refine ⟨hn,h2,hL,λ i j hi hj v hv=>?_⟩
 have hje:j < es:=by rw [← h2 _ (qa hi)];exact hj
 have hlt:=zk1 hi hje
 have hcs:cs[i * es+j]?=some (cs[i * es+j]'(by omega)):=by simp
 have:=hc _ _ hcs
 rw [this] at hv
 cases hv
 exact h3 i j hi hj _ hcs
theorem zn7 (w:World):Keep (λ _ _=>False) w w.drew:=⟨rfl,rfl,rfl,qg _,λ _ _ _ _=>rfl,λ _ _ _=>rfl,λ _ _ _=>rfl,qce _⟩
theorem zoy {w0 w w1:World} {W0:Fr} {c:Ctx} {H H':zkO} (s:Sit w0 W0 c H w) (k0:Keep (λ _ _=>False) w w1) (hs1:w1.heap.size=w.heap.size) (T:TypeId) (vs:Array Value) {t fr:Bool} {es:Nat} {rows:List (List Leaf)} {cs:List Value} {n:Nat} (hn:n=vs.size)
  (hless:∀ i o,H' i=some o→H i=some o) (hcs:CellsOf w (c.fs t) es cs rows) (hle:cs.length≤vs.size) (hv:∀ (j:Nat) (v:Value),cs[j]?=some v→vs[j]?=some v) :
  Sit w0 W0 (c.push (Loc.flat (w.heap.size) (0) (n))) (upd H' c.nx (some (fr,.arr t es rows))) (w1.alloc (.cells vs T))∧Same c w (w1.alloc (.cells vs T)):=by
 subst hn
 have hk:Keep (λ _ _=>False) w (w1.alloc (.cells vs T)):=k0.trans (zma w1 (.cells vs T)) λ _ _ _ h=>h.elim
 have hs:=s.same hk (λ _ _ _ h=>h.elim)
 have hce:∀ j,(w1.alloc (.cells vs T)).cell? ⟨w.heap.size,j,none⟩=vs[j]?:=λ j=>by rw [← hs1];exact zlM w1 vs T j
 refine s.push hk _ hless (λ _=>False) (λ _ h=>h.elim) (λ _ _ _ h=>h.elim) (λ b j hb=>.inl (by rw [(zlE hb).1];exact ⟨qg _,λ k'=>by rw [← hs1];simp⟩)) ?_ (λ _ h=>h.elim)
 refine zq0 (cs:=cs) (hcs.mono (λ b k x=>(c.le_push _).fs _ _ _ x) (λ b k x=>hs.fs _ b k x)) (by rw [← hcs.1];exact hle) (λ j hj=>?_) λ j v hjv=>?_
 ·have hj':j < vs.size:=hj
  refine ⟨vs[j],by simp only [ql];rw [hce];simp [hj'],?_⟩
  simp only [ql]
  rw [← hs1]
  exact World.frozen?_alloc_new w1 vs T j
 ·simp only [ql]
  rw [hce]
  exact hv j v hjv
section
variable {P:Program} {s:St}
theorem zl0 {c:Call} {a:Act} {o:Oper} {x y:Operand} {t u:Nat} (ho:o.op=.call c) (hc:c.callee=.builtin .append) (ha:c.args=#[x,y]) (ht:c.argTypes=#[t,u]) (w:World) :
  (execOp a.eval o).run P w=((Builtin.append_ #[t,u] o.type #[a.eval x,a.eval y]).run P w).andThen λ v w'=>.ok (.value v) w':=by
 unfold execOp
 rw [ho]
 simp only [resolve,hc,ha,ht,Sem.run_bind,Sem.run_pure,Result.andThen_ok,invoke,builtin,qbm,qp,qca]
theorem zrH {c:Call} {x y:Operand} {t u el el2:Nat} {e e2 ee:TE} {tx:Bool} {rows:List (List Leaf)} (hc:c.callee=.builtin .append) (ha:c.args=#[x,y]) (hat:c.argTypes=#[t,u]) (ht:OkT P t e) (hs:e.sh=.slice el) (hu:OkT P u e2) (hs2:e2.sh=.slice el2) (he:OkT P el ee)
  (hb0:0 < ee.bytes) (hzs:ee.zero.length=ee.size) (hx:ev s.T x=.nl) (hy:zlR (hp s.H) (ev s.T y)=some (tx,rows)) :
  Does P (.call c) s ⟨(∀ r∈rows,r.length=ee.size)∧rows.length * ee.bytes≤140737488355328,.os s.nx ee.size 0 rows.length rows.length false,(s.nx,some (true,.arr tx ee.size rows)) :: s.H,s.nx+1⟩:=by
 intro w0 W0 cx a w hr ⟨hes,hbd⟩
 have hx':=zkN hr x
 rw [hx] at hx'
 obtain ⟨ay,capy,cs,hyv,hcy,hcs,hrd⟩:=zvN hr.sit hy hes (zkN hr y)
 obtain ⟨i,z,hi,h1,h2,h3,h4⟩:=he.info
 generalize hxv:a.eval x=xv at hx'
 have hmul:rows.length≤rows.length * ee.bytes:=qbn _ hb0
 cases hx' with
 | nl base =>
  by_cases h0:rows.length=0
  ·have:rows=[]:=qe h0
   subst this
   have hcs0:cs=[]:=qe (by rw [hcs.1];simp)
   subst hcs0
   obtain ⟨hsit,hsame⟩:=hr.sit.push (Keep.refl (λ _ _=>False) w) (Loc.flat 0 0 0) (fr:=true) (o:=.arr tx ee.size []) (λ _ _ h=>h) (λ _=>False) (λ _ h=>h.elim) (λ _ _ _ h=>h.elim) (λ b j hb=>by obtain ⟨_,h5⟩:=zlE hb;omega)
    ⟨by simp,λ r hr=>by simp at hr,λ j hj=>by simp at hj,λ i j hi=>by simp at hi⟩ (λ _ h=>h.elim)
   refine ⟨.value (.slice base 0 0),w,cx.push (Loc.flat (0) (0) (0)),_,λ o ho=>?_,.inl rfl,cx.le_push _,by show cx.nx+1=s.nx+1;rw [hr.nx],?_,hsame,?_⟩
   ·rw [zl0 ho hc ha hat,hxv,hyv]
    have hrun:(Builtin.append_ #[t,u] o.type #[.slice base 0 0,.slice ay 0 capy]).run P w=.ok (.slice base 0 0) w:=by
     have:=zmO (P:=P) (t:=t) (u:=u) (ty:=o.type) (w:=w) (base:=base) (sLen:=0) (sCap:=0) (n:=0) (cap:=capy) (a:=ay) (news:=[]) (b:=0) (o:=0) (ht.slice hs) (hu.slice hs2) hi (by simp) (λ h=>absurd rfl h) (qg _) (λ h=>absurd rfl h) (λ j hj=>by simp at hj) (λ v hv=>by simp at hv)
     simpa [World.setCells] using this
    rw [show ([]:List (List Leaf)).length=0 from rfl,hrun]
    rfl
   ·show Sit w0 W0 _ (hp ((s.nx,_) :: s.H)) _
    rw [zkD,← hr.nx]
    exact hsit
   ·show Cv w _ (.os s.nx ee.size 0 0 0 false) _
    rw [← hr.nx]
    exact .os (qk _) (qg _) (by omega) (λ h=>by cases h) (.inl rfl) (by rw [Ctx.push_loc];simp)
  ·have hzc:z.cells.size=i.size:=by rw [h1,← hzs,← h4];simp
   let G:=grownCap w (0+rows.length) 0 el
   have hG:0+rows.length≤G:=grownCap_ge w _ _ _
   have hG2:G≤9223372036854775807:=grownCap_le_maxLen w _ _ _ (by simp only [maxLen];omega)
   have hsize:(#[]++cs.toArray++Builtin.zeroCells z.cells (G - (0+rows.length))).size=G * ee.size:=by
    simp only [qcc,qcd,size_zeroCells,hzc,h1,hcs.1,qQ,ql]
    rw [← qd]
    congr 1
    omega
   obtain ⟨hsit,hsame⟩:=zoy (fr:=true) (n:=G * ee.size) hr.sit (zn7 w) rfl el (#[]++cs.toArray++Builtin.zeroCells z.cells (G - (0+rows.length))) hsize.symm (λ _ _ h=>h) hcs
    (by rw [hsize,hcs.1];exact qf _ (by omega)) (λ j v hjv=>by
     have hlt:j < cs.length:=by
      rcases qj j cs.length with h | h
      ·exact h
      ·rw [List.getElem?_eq_none h] at hjv;cases hjv
     rw [Array.getElem?_append_left (by simp;exact hlt)]
     simpa using hjv)
   refine ⟨.value (.slice (some ⟨w.heap.size,0,none⟩) (0+rows.length) G),_,_,_,λ o ho=>?_,.inl rfl,cx.le_push (Loc.flat (w.heap.size) (0) (G * ee.size)),by show cx.nx+1=s.nx+1;rw [hr.nx],?_,hsame,?_⟩
   ·rw [zl0 ho hc ha hat,hxv,hyv]
    have:=zmo (P:=P) (ty:=o.type) (w:=w) (base:=base) (sLen:=0) (sCap:=0) (n:=rows.length) (cap:=capy) (a:=ay) (olds:=[]) (news:=cs) (ht.slice hs) (hu.slice hs2) hi h3 (by simp) (λ h=>absurd rfl h) (by rw [h1];exact hcs.1) hrd (by omega) (by rw [h2,ql];exact hbd) (by omega)
    rw [this]
    rfl
   ·show Sit w0 W0 _ (hp ((s.nx,_) :: s.H)) _
    rw [zkD,← hr.nx]
    exact hsit
   ·show Cv _ _ (.os s.nx ee.size 0 rows.length rows.length false) _
    rw [← hr.nx,ql]
    rw [ql] at hG
    refine .os (qk _) hG ⟨hG,hG2⟩ (λ h=>by cases h) (.inr ?_) ?_
    ·rw [Ctx.push_loc];simp
    ·rw [Ctx.push_loc];simp [G]
theorem zrJ {c:Call} {x y:Operand} {t u el el2:Nat} {e e2 ee:TE} {t1 tx fr:Bool} {id es lo len mc:Nat} {ex:Bool} {old rows:List (List Leaf)} (hc:c.callee=.builtin .append) (ha:c.args=#[x,y]) (hat:c.argTypes=#[t,u]) (ht:OkT P t e) (hs:e.sh=.slice el) (hu:OkT P u e2) (hs2:e2.sh=.slice el2) (he:OkT P el ee)
  (hb0:0 < ee.bytes) (hzs:ee.zero.length=ee.size) (hes0:ee.size=es) (hx:ev s.T x=.os id es lo len mc ex) (ho:hp s.H id=some (fr,.arr t1 es old)) (hlo:lo+len≤old.length) (hy:zlR (hp s.H) (ev s.T y)=some (tx,rows)) {room:Nat} (hroomA:room≤max (len+rows.length) mc) :
  Does P (.call c) s ⟨(∀ r∈rows,r.length=es)∧(len+rows.length) * ee.bytes≤140737488355328,.os s.nx es 0 (len+rows.length) room false,
   (s.nx,some (fr,.arr (t1 || tx) es ((old.drop lo).take len++rows))) :: (id,none) :: s.H,s.nx+1⟩:=by
 intro w0 W0 cx a w hr ⟨hes,hbd⟩
 have hx':=zkN hr x
 rw [hx] at hx'
 obtain ⟨ay,capy,cs,hyv,hcy,hcs,hrd⟩:=zvN hr.sit hy hes (zkN hr y)
 obtain ⟨i,z,hi,h1,h2,h3,h4⟩:=he.info
 have hH:Holds w cx (cx.loc id) (.arr t1 es old):=(hr.sit.own _ _ ho).2
 obtain ⟨ds,hds,hdc⟩:=zqZ hH hlo
 have hdl:((old.drop lo).take len).length=len:=by simp;omega
 have hall:CellsOf w (cx.fs (t1 || tx)) es (ds++cs) ((old.drop lo).take len++rows) :=
  (hds.mono (λ b k x=>(Ctx.fs_or x).1) λ _ _ _=>rfl).append (hcs.mono (λ b k x=>(Ctx.fs_or x).2) λ _ _ _=>rfl)
 have hds1:ds.length=len * es:=by rw [hds.1,hdl]
 have hcs1:cs.length=rows.length * es:=hcs.1
 generalize hxv:a.eval x=xv at hx'
 have hmul:len+rows.length≤(len+rows.length) * ee.bytes:=qbn _ hb0
 have hgl:∀ j o,(upd (hp s.H) id none) j=some o→hp s.H j=some o:=λ j o hj=>by
  by_cases e:j=id
  ·subst e;rw [zlf] at hj;cases hj
  ·rw [zle _ _ e] at hj;exact hj
 cases hx' with
 | os hid hl hm hex haa hn =>
  rename_i cap base
  by_cases hroom:len+rows.length≤cap
  ·-- in place
   obtain ⟨g1,g0,g2,g3⟩:=hH
   have hcapn:∀ j,j < cap * es→lo * es+j < (cx.loc id).n:=λ j hj=>by omega
   have hadd:len * es+rows.length * es≤cap * es:=by rw [← qd];exact qf es hroom
   have hcell:∀ j,j < cs.length→(w.cell? ⟨(cx.loc id).b,(cx.loc id).base+lo * es+(len * es+j),none⟩).isSome=true∧w.frozen? ⟨(cx.loc id).b,(cx.loc id).base+lo * es+(len * es+j),none⟩=false:=by
    intro j hj
    obtain ⟨v,hv,hf⟩:=g2 (lo * es+(len * es+j)) (hcapn _ (by omega))
    rw [← qb] at hv hf
    exact ⟨by simp [hv],hf⟩
   have hbase:rows.length≠0→base=some ⟨(cx.loc id).b,(cx.loc id).base+lo * es,none⟩:=λ h=>haa.resolve_left (by omega)
   let w':=w.setCells (cx.loc id).b ((cx.loc id).base+lo * es+len * es) cs
   have hkeep:=keep_setCells w (cx.loc id).b ((cx.loc id).base+lo * es+len * es) cs
   have hsub:∀ b j,(b=(cx.loc id).b∧(cx.loc id).base+lo * es+len * es≤j∧j < (cx.loc id).base+lo * es+len * es+cs.length)→inR (cx.loc id) b j:=by
    rintro b j ⟨rfl,q1,q2⟩
    have:=hcapn (len * es+(j - ((cx.loc id).base+lo * es+len * es))) (by omega)
    exact .inl ⟨rfl,by omega⟩
   have hsame:=hr.sit.same hkeep λ b j _ d=>⟨id,_,ho,hsub b j d⟩
   obtain ⟨hsit,_⟩:=hr.sit.push (H':=upd (hp s.H) id none) (fr:=fr) (o:=.arr (t1 || tx) es ((old.drop lo).take len++rows)) hkeep (Loc.flat (cx.loc id).b ((cx.loc id).base+lo * es) (cap * es)) hgl (λ j=>j=id) (λ j hj=>by subst hj;exact zlf _ _ _)
    (λ b j _ d=>⟨id,_,rfl,ho,hsub b j d⟩) (λ b j hb=>.inr ⟨id,_,rfl,ho,by
     obtain ⟨q1,q2⟩:=zlE hb
     have:=hcapn 0 q2
     exact .inl ⟨q1,by omega⟩,λ h=>h⟩) (hmo:=λ _ h=>h.elim) (hh:=by
    refine zq0 (cs:=ds++cs) (hall.mono (λ b k x=>(cx.le_push _).fs _ _ _ x) (λ b k x=>hsame.fs _ b k x)) ?_ (λ j hj=>?_) λ j v hjv=>?_
    ·simp only [qM,hdl];exact qf es hroom
    ·simp only at hj
     have hlt:=hcapn j hj
     obtain ⟨v,hv,hf⟩:=g2 (lo * es+j) hlt
     rw [← qb] at hv hf
     by_cases hin:len * es≤j∧j < len * es+cs.length
     ·refine ⟨cs[j - len * es]'(by omega),?_,by rw [World.frozen?_setCells];exact hf⟩
      have:=World.cell?_setCells_in (cx.loc id).b cs ((cx.loc id).base+lo * es+len * es) w (λ q hq=>by have:=(hcell q hq).1;rw [← qb] at this;exact this) (j - len * es) (by omega)
      rw [show (cx.loc id).base+lo * es+len * es+(j - len * es)=(cx.loc id).base+lo * es+j by omega] at this
      exact this
     ·refine ⟨v,?_,by rw [World.frozen?_setCells];exact hf⟩
      rw [World.cell?_setCells_out _ _ _ _ _ (λ _ _=>by simp only;omega)]
      exact hv
    ·by_cases hlt:j < ds.length
     ·rw [List.getElem?_append_left hlt] at hjv
      rw [World.cell?_setCells_out _ _ _ _ _ (λ _ _=>by simp only;omega)]
      exact hdc j v hjv
     ·rw [List.getElem?_append_right (by omega)] at hjv
      have hlt2:j - ds.length < cs.length:=by
       rcases qj (j - ds.length) cs.length with h | h
       ·exact h
       ·rw [List.getElem?_eq_none h] at hjv;cases hjv
      have:=World.cell?_setCells_in (cx.loc id).b cs ((cx.loc id).base+lo * es+len * es) w (λ q hq=>by have:=(hcell q hq).1;rw [← qb] at this;exact this) (j - ds.length) hlt2
      rw [show (cx.loc id).base+lo * es+len * es+(j - ds.length)=(cx.loc id).base+lo * es+j by omega] at this
      simp only
      rw [this,← hjv]
      simp [hlt2])
   refine ⟨.value (.slice base (len+rows.length) cap),w',_,_,λ o ho'=>?_,.inl rfl,cx.le_push (Loc.flat ((cx.loc id).b) ((cx.loc id).base+lo * es) (cap * es)),by show cx.nx+1=s.nx+1;rw [hr.nx],?_,hsame,?_⟩
   ·rw [zl0 ho' hc ha hat,hxv,hyv]
    have:=zmO (P:=P) (ty:=o.type) (w:=w) (base:=base) (sLen:=len) (sCap:=cap) (n:=rows.length) (cap:=capy) (a:=ay) (news:=cs) (b:=(cx.loc id).b) (o:=(cx.loc id).base+lo * es) (ht.slice hs) (hu.slice hs2) hi (by rw [h1,hes0];exact hcs1) hrd hroom hbase
     (λ j hj=>by rw [h1,hes0];exact hcell j hj) hcs.one
    rw [this,h1,hes0]
    rfl
   ·show Sit w0 W0 _ (hp ((s.nx,_) :: (id,none) :: s.H)) _
    rw [zkD,zkD,← hr.nx]
    exact hsit
   ·show Cv _ _ (.os s.nx es 0 (len+rows.length) room false) _
    rw [← hr.nx]
    refine .os (qk _) hroom (by omega) (λ h=>by cases h) ?_ ?_
    ·rw [Ctx.push_loc]
     rcases haa with h | h
     ·exact .inl h
     ·exact .inr (by rw [h];simp)
    ·rw [Ctx.push_loc];simp
  ·-- a new block
   have hzc:z.cells.size=i.size:=by rw [h1,← hzs,← h4];simp
   let G:=grownCap w (len+rows.length) cap el
   have hG:len+rows.length≤G:=grownCap_ge w _ _ _
   have hG2:G≤9223372036854775807:=grownCap_le_maxLen w _ _ _ (by simp only [maxLen];omega)
   have hsize:(ds.toArray++cs.toArray++Builtin.zeroCells z.cells (G - (len+rows.length))).size=G * es:=by
    simp only [qcc,qcd,size_zeroCells,hzc,h1,hes0,hds1,hcs1]
    rw [← qd,← qd]
    congr 1
    omega
   obtain ⟨hsit,hsame⟩:=zoy (fr:=fr) (n:=G * es) (H':=upd (hp s.H) id none) hr.sit (zn7 w) rfl el (ds.toArray++cs.toArray++Builtin.zeroCells z.cells (G - (len+rows.length))) hsize.symm hgl hall
    (by rw [hsize,qM,hds1,hcs1,← qd];exact qf _ hG) (λ j v hjv=>by
     have hlt:j < (ds++cs).length:=by
      rcases qj j (ds++cs).length with h | h
      ·exact h
      ·rw [List.getElem?_eq_none h] at hjv;cases hjv
     rw [Array.getElem?_append_left (by simpa using hlt)]
     simpa using hjv)
   refine ⟨.value (.slice (some ⟨w.heap.size,0,none⟩) (len+rows.length) G),_,_,_,λ o ho'=>?_,.inl rfl,cx.le_push (Loc.flat (w.heap.size) (0) (G * es)),by show cx.nx+1=s.nx+1;rw [hr.nx],?_,hsame,?_⟩
   ·rw [zl0 ho' hc ha hat,hxv,hyv]
    have:=zmo (P:=P) (ty:=o.type) (w:=w) (base:=base) (sLen:=len) (sCap:=cap) (n:=rows.length) (cap:=capy) (a:=ay) (olds:=ds) (news:=cs) (ht.slice hs) (hu.slice hs2) hi h3 (by rw [h1,hes0];exact hds1)
     (λ h0=>⟨_,_,haa.resolve_left (by omega),hdc⟩) (by rw [h1,hes0];exact hcs1) hrd (by omega) (by rw [h2];exact hbd) (by omega)
    rw [this]
    rfl
   ·show Sit w0 W0 _ (hp ((s.nx,_) :: (id,none) :: s.H)) _
    rw [zkD,zkD,← hr.nx]
    exact hsit
   ·show Cv _ _ (.os s.nx es 0 (len+rows.length) room false) _
    rw [← hr.nx]
    refine .os (qk _) hG (by omega) (λ h=>by cases h) (.inr ?_) ?_
    ·rw [Ctx.push_loc];simp
    ·rw [Ctx.push_loc];simp [G]
theorem zxm {t el:Nat} {e ee:TE} {x y:Operand} {k1 k2:IntKind} {n:Int} {zl:List Leaf} (ht:OkT P t e) (hs:e.sh=.slice el) (he:OkT P el ee) (hzs:ee.zero.length=ee.size) (hz:zlG (ee.zero.map zlg)=some (false,zl)) (hx:sc? (ev s.T x)=some (.int k1 n)) (hy:sc? (ev s.T y)=some (.int k2 n)) :
  Does P (.makeSlice t x y) s ⟨0≤n∧n * ee.bytes≤281474976710656∧n≤9223372036854775807,.os s.nx ee.size 0 n.toNat n.toNat true,(s.nx,some (true,.arr false ee.size (List.replicate n.toNat zl))) :: s.H,s.nx+1⟩:=by
 intro w0 W0 cx a w hr ⟨h0,hbd,h63⟩
 have hx':=(zl3 hx (zkN hr x)).1
 have hy':=(zl3 hy (zkN hr y)).1
 obtain ⟨i,z,hi,h1,h2,h3,h4⟩:=he.info
 have hzc:z.cells.size=ee.size:=by rw [← hzs,← h4];simp
 have hrun:=run_make (P:=P) w t el i z (ht.slice hs) hi h3 k1 k2 n n h0 (Int.le_refl _) (by rw [h2,Int.mul_comm];exact hbd) h63
 rw [h1] at hrun
 obtain ⟨hzl,hlv⟩:=zpa (w:=w) (c:=cx) hz
 have hzl':zl.length=ee.size:=by rw [hzl];simp [hzs]
 have hget:∀ k,k < n.toNat * ee.size→(madeCells z.cells (n.toNat * ee.size))[k]?=z.cells[k % ee.size]?:=by
  intro k hk
  have hp:0 < ee.size:=by
   rcases qu ee.size with h | h
   ·rw [h] at hk;simp at hk
   ·exact h
  have hm:=qbu k hp
  simp only [madeCells,hzc]
  simp [hk,hzc,hm]
 have hcs:CellsOf w (cx.fs false) ee.size (madeCells z.cells (n.toNat * ee.size)).toList (List.replicate n.toNat zl):=by
  refine ⟨by simp [size_madeCells],λ r hr=>by rw [List.mem_replicate] at hr;rw [hr.2];exact hzl',λ p q hp hq v hv=>?_⟩
  have hp':p < n.toNat:=by simpa using hp
  have hq':q < zl.length:=by simpa using hq
  have hlt:=zk1 hp' (by omega:q < ee.size)
  have hmod:(p * ee.size+q) % ee.size=q:=by rw [qbg,qcj,qch (by omega)]
  have hv':(madeCells z.cells (n.toNat * ee.size))[p * ee.size+q]?=some v:=by simpa using hv
  rw [hget _ hlt,hmod] at hv'
  have hzq:ee.zero[q]?=some v:=by rw [← h4];simpa using hv'
  have hqz:q < ee.zero.length:=by omega
  rw [List.getElem?_eq_getElem hqz] at hzq
  have:=hlv q (by simpa using hqz) hq' v (by rw [qi];cases hzq;exact znC _ _ _)
  simpa using this
 obtain ⟨hsit,hsame⟩:=zoy (fr:=true) (n:=n.toNat * ee.size) hr.sit (Keep.refl _ w) rfl el (madeCells z.cells (n.toNat * ee.size)) (by rw [size_madeCells]) (λ _ _ h=>h) hcs (by simp) (λ j v hj=>by simpa using hj)
 refine ⟨.value (.slice (some ⟨w.heap.size,0,none⟩) n.toNat n.toNat),_,_,_,λ o ho=>?_,.inl rfl,cx.le_push (Loc.flat (w.heap.size) (0) (n.toNat * ee.size)),by show cx.nx+1=s.nx+1;rw [hr.nx],?_,hsame,?_⟩
 ·unfold execOp
  rw [ho]
  simp only [hx',hy',Sem.run_bind,hrun,Result.andThen_ok,Sem.run_pure]
 ·show Sit w0 W0 _ (hp ((s.nx,_) :: s.H)) _
  rw [zkD,← hr.nx]
  exact hsit
 ·show Cv _ _ (.os s.nx ee.size 0 n.toNat n.toNat true) _
  rw [← hr.nx]
  refine .os (qk _) (qg _) (by omega) (λ _=>rfl) (.inr ?_) ?_
  ·rw [Ctx.push_loc];simp
  ·rw [Ctx.push_loc];simp
theorem zpT {c:Call} {a:Act} {o:Oper} {x:Operand} {t:Nat} (ho:o.op=.call c) (hc:c.callee=.builtin .clear) (ha:c.args=#[x]) (ht:c.argTypes=#[t]) (w:World) :
  (execOp a.eval o).run P w=((Builtin.clear_ #[t] o.type #[a.eval x]).run P w).andThen λ v w'=>.ok (.value v) w':=by
 unfold execOp
 rw [ho]
 simp only [resolve,hc,ha,ht,Sem.run_bind,Sem.run_pure,Result.andThen_ok,invoke,builtin,qbm,qp,qca]
theorem zvO {c:Call} {x:Operand} {t el:Nat} {e ee:TE} {t1 fr:Bool} {id es lo len mc:Nat} {ex:Bool} {old:List (List Leaf)} {zl:List Leaf} (hc:c.callee=.builtin .clear) (ha:c.args=#[x]) (hat:c.argTypes=#[t]) (ht:OkT P t e) (hs:e.sh=.slice el) (he:OkT P el ee)
  (hzs:ee.zero.length=ee.size) (hz:zlG (ee.zero.map zlg)=some (false,zl)) (hes0:ee.size=es) (hx:ev s.T x=.os id es lo len mc ex) (ho:hp s.H id=some (fr,.arr t1 es old)) :
  Does P (.call c) s ⟨old.length≤lo,.un,s.H,s.nx⟩:=by
 intro w0 W0 cx a w hr hlo
 have hx':=zkN hr x
 rw [hx] at hx'
 obtain ⟨i,z,hi,h1,h2,h3,h4⟩:=he.info
 have hzc:z.cells.size=es:=by rw [← hes0,← hzs,← h4];simp
 have hH:Holds w cx (cx.loc id) (.arr t1 es old):=(hr.sit.own _ _ ho).2
 obtain ⟨g1,g0,g2,g3⟩:=hH
 have hzv:∀ w:World,(zeroValue el).run P w=.ok z w:=λ w=>by simp [zeroValue,zrC hi,h3]
 have hund:=ht.slice hs
 generalize hxv:a.eval x=xv at hx'
 cases hx' with
 | os hid hl hm hex haa hn =>
  rename_i cap base
  by_cases hq:base=none∨len=0
  ·have hrun:∀ ty,(Builtin.clear_ #[t] ty #[.slice base len cap]).run P w=.ok (.tuple #[]) w:=λ ty=>by
    rcases hq with hq | hq
    ·subst hq;simp [Builtin.clear_,zkS hund]
    ·subst hq;cases base<;>simp [Builtin.clear_,zkS hund]
   refine ⟨.value (.tuple #[]),w,cx,_,λ o ho'=>?_,.inl rfl,.refl cx,hr.nx,hr.sit,.refl cx w,.un _⟩
   rw [zpT ho' hc ha hat,hxv,hrun]
   rfl
  ·have hb:base=some ⟨(cx.loc id).b,(cx.loc id).base+lo * es,none⟩:=haa.resolve_left (by omega)
   have hlen0:len≠0:=λ h=>hq (.inr h)
   let cs:=(Builtin.zeroCells z.cells len).toList
   have hcl:cs.length=len * es:=by show (Builtin.zeroCells z.cells len).toList.length=_;rw [qbb,size_zeroCells,hzc]
   have hcap:len * es≤cap * es:=qf es hl
   have hthere:∀ j,j < cs.length→∃ v,w.cell? ⟨(cx.loc id).b,(cx.loc id).base+lo * es+j,none⟩=some v∧w.frozen? ⟨(cx.loc id).b,(cx.loc id).base+lo * es+j,none⟩=false:=λ j hj=>by
    obtain ⟨v,hv,hf⟩:=g2 (lo * es+j) (by omega)
    rw [← qb] at hv hf
    exact ⟨v,hv,hf⟩
   have hone:∀ u∈cs,u.oneCell'=true:=λ u hu=>by
    have hu':u∈(Builtin.zeroCells z.cells len).toList:=hu
    simp only [Builtin.zeroCells,Array.toList_map,List.mem_map,Array.toList_range,List.mem_range] at hu'
    obtain ⟨k,hk,rfl⟩:=hu'
    have hpos:0 < z.cells.size:=by
     rcases qu z.cells.size with h | h
     ·rw [h] at hk;simp at hk
     ·exact h
    have hm:=qbu k hpos
    have hf:=zoK hz
    rw [qr] at hf
    have hmem:z.cells[k % z.cells.size]∈ee.zero:=by rw [← h4];simp
    have:=(znl (hf _ (List.mem_map.2 ⟨_,hmem,rfl⟩)) (znC w cx _)).1
    rw [getElem!_pos z.cells (k % z.cells.size) hm]
    exact this
   have hst:=run_storeCells_cells (P:=P) (cx.loc id).b ((cx.loc id).base+lo * es) cs 0 w (λ j hj=>by obtain ⟨v,hv,_⟩:=hthere j hj;simp [hv]) (λ j hj=>by obtain ⟨v,_,hf⟩:=hthere j hj;simpa using hf) hone
   simp only [qv] at hst
   have hrun:∀ ty,(Builtin.clear_ #[t] ty #[.slice base len cap]).run P w=.ok (.tuple #[]) (w.setCells (cx.loc id).b ((cx.loc id).base+lo * es) cs):=λ ty=>by
    obtain ⟨m,rfl⟩:∃ m,len=m+1:=⟨len - 1,by omega⟩
    subst hb
    have hst':=hst
    simp only [cs] at hst'
    simp [Builtin.clear_,zkS hund,hzv,hst',cs]
   have hkeep:=keep_setCells w (cx.loc id).b ((cx.loc id).base+lo * es) cs
   have hsub:∀ b j,b < w.heap.size→(b=(cx.loc id).b∧(cx.loc id).base+lo * es≤j∧j < (cx.loc id).base+lo * es+cs.length)→inR (cx.loc id) b j:=by
    rintro b j _ ⟨rfl,q1,q2⟩
    exact .inl ⟨rfl,by omega⟩
   have hsame:=hr.sit.same hkeep λ b j hb d=>⟨id,_,ho,hsub b j hb d⟩
   have hrow:old.length * es≤lo * es:=qf es hlo
   obtain ⟨hsit,_⟩:=hr.sit.upd (o':=.arr t1 es old) hkeep ho hsub (by
    refine ⟨g1,g0,λ j hj=>?_,λ p q hp hq u hu=>?_⟩
    ·by_cases hin:lo * es≤j∧j < lo * es+cs.length
     ·refine ⟨cs[j - lo * es]'(by omega),?_,by rw [World.frozen?_setCells];exact (g2 j hj).elim λ _ h=>h.2⟩
      have:=World.cell?_setCells_in (cx.loc id).b cs ((cx.loc id).base+lo * es) w (λ i hi=>by obtain ⟨u,hu,_⟩:=hthere i hi;simp [hu]) (j - lo * es) (by omega)
      rw [show (cx.loc id).base+lo * es+(j - lo * es)=(cx.loc id).base+j by omega] at this
      rw [this]
     ·obtain ⟨u,hu,hzz⟩:=g2 j hj
      refine ⟨u,?_,by rw [World.frozen?_setCells];exact hzz⟩
      rw [World.cell?_setCells_out _ _ _ _ _ (λ _ _=>by simp only;omega)]
      exact hu
    ·have hqe:q < es:=by rw [← g0 _ (qa hp)];exact hq
     have:=zk1 hp hqe
     rw [World.cell?_setCells_out _ _ _ _ _ (λ _ _=>by simp only;omega)] at hu
     exact (g3 p q hp hq u hu).mono (λ b k x=>x) (λ b k x=>hsame.fs _ b k x))
   have hsame2:upd (hp s.H) id (some (fr,.arr t1 es old))=hp s.H:=by
    funext j
    by_cases e:j=id
    ·subst e;rw [zlf,ho]
    ·rw [zle _ _ e]
   rw [hsame2] at hsit
   refine ⟨.value (.tuple #[]),_,cx,_,λ o ho'=>?_,.inl rfl,.refl cx,hr.nx,hsit,hsame,.un _⟩
   rw [zpT ho' hc ha hat,hxv,hrun]
   rfl
end
end Go.TL
namespace Go.TL
open Go
theorem ztJ (off:Nat):∀ (l:List Value) (k:Nat) (cells:Array Value),let r:=(l.zipIdx k).foldl (λ cs p=>cs.setIfInBounds (off+p.2) p.1) cells
  r.size=cells.size∧∀ q,r[q]?=if off+k≤q∧q < off+k+l.length∧q < cells.size then l[q - (off+k)]? else cells[q]?
 | [],k,cells=>by
  refine ⟨rfl,λ q=>?_⟩
  rw [if_neg (by simp;omega)]
  rfl
 | v :: r,k,cells=>by
  obtain ⟨h1,h2⟩:=ztJ off r (k+1) (cells.setIfInBounds (off+k) v)
  simp only [List.zipIdx_cons,qck]
  refine ⟨by rw [h1];simp,λ q=>?_⟩
  rw [h2 q]
  simp only [Array.size_setIfInBounds,qP]
  by_cases hq:q=off+k
  ·subst hq
   rw [if_neg (by omega)]
   by_cases hlt:off+k < cells.size
   ·rw [if_pos (by omega)]
    simp [hlt]
   ·rw [if_neg (by omega)]
    rw [Array.getElem?_eq_none (by simp;omega),Array.getElem?_eq_none (by omega)]
  ·by_cases hin:off+(k+1)≤q∧q < off+(k+1)+r.length∧q < cells.size
   ·rw [if_pos hin,if_pos (by omega),show q - (off+k)=q - (off+(k+1))+1 by omega]
    rfl
   ·rw [if_neg hin,if_neg (by omega),Array.getElem?_setIfInBounds,if_neg (Ne.symm hq)]
theorem zoP (size:Nat):∀ (parts:List (Nat×Value)) (i:Nat) (cells:Array Value),parts.map (·.1)=List.range' i parts.length→(∀ p∈parts,p.2.cells.size=size)→(i+parts.length) * size≤cells.size →
  ∃ r,Instr.fill (λ i=>some (i * size,size)) cells parts=some r∧r.size=cells.size∧(∀ k (hk:k < parts.length) j,j < size→r[(i+k) * size+j]?=(parts[k]).2.cells[j]?)∧∀ q,q < i * size→r[q]?=cells[q]?
 | [],i,cells,_,_,_=>⟨cells,rfl,rfl,λ k hk=>by simp at hk,λ q _=>rfl⟩
 | (i',v) :: rest,i,cells,hi,hs,hb=>by
  simp only [qp,qP,List.range'_succ,List.cons.injEq] at hi
  obtain ⟨rfl,hi⟩:=hi
  have hv:v.cells.size=size:=hs _ qbw
  have hmul:(i'+(rest.length+1)) * size=i' * size+size+rest.length * size:=by rw [qd,qd,qbs];omega
  rw [qP,hmul] at hb
  have hlay:=ztJ (i' * size) v.cells.toList 0 cells
  simp only [qv] at hlay
  obtain ⟨l1,l2⟩:=hlay
  have hfold:v.cells.zipIdx.foldl (λ cs (c,j)=>cs.setIfInBounds (i' * size+j) c) cells=(v.cells.toList.zipIdx 0).foldl (λ cs p=>cs.setIfInBounds (i' * size+p.2) p.1) cells:=by
   rw [← qby]
   simp [qbv]
  obtain ⟨r,h1,h2,h3,h4⟩:=zoP size rest (i'+1) ((v.cells.toList.zipIdx 0).foldl (λ cs p=>cs.setIfInBounds (i' * size+p.2) p.1) cells) hi (λ p hp=>hs p (qy _ hp))
   (by rw [l1,qd,qd,qbs];omega)
  refine ⟨r,?_,by rw [h2,l1],λ k hk j hj=>?_,λ q hq=>?_⟩
  ·have hc:¬ ((decide (v.cells.size≠size) || decide (i' * size+v.cells.size > cells.size))=true):=by
    rw [hv]
    simp
    omega
   unfold Instr.fill
   simp only
   rw [if_neg hc,hfold]
   exact h1
  ·cases k with
   | zero =>
    rw [h4 _ (by simp only [qd,qbs,Nat.zero_mul];omega),l2]
    simp only [qv,qbo]
    rw [if_pos (by simp [hv];omega)]
    simp
   | succ k =>
    have:=h3 k (by simpa using hk) j hj
    rw [show i'+(k+1)=i'+1+k by omega]
    exact this
  ·rw [h4 q (by rw [qd,qbs];omega),l2,if_neg (by omega)]
section
variable {P:Program} {s:St}
def zlN (T:List (Nat×LV)) (es:Nat):List (Nat×Operand)→Option (Bool×List (List Leaf))
 | []=>some (false,[])
 | (_,x) :: r=>match zlh (ev T x),zlN T es r with
  | some ks,some (t,rows)=>match zlG ks with
   | some (u,ls)=>if ls.length=es then some (u || t,ls :: rows) else none
   | none=>none
  | _,_=>none
theorem zux {w0 w:World} {W0:Fr} {c:Ctx} {a:Act} (hr:Rel w0 W0 c s a w) {es:Nat}:∀ {l:List (Nat×Operand)} {t:Bool} {rows:List (List Leaf)},zlN s.T es l=some (t,rows) →
  rows.length=l.length∧(∀ r∈rows,r.length=es)∧(∀ p∈l,(a.eval p.2).cells.size=es)∧∀ i (hi:i < l.length) (hi':i < rows.length) j (hj:j < (rows[i]).length) v,(a.eval (l[i]).2).cells[j]?=some v→RepL w (c.fs t) v ((rows[i])[j])
 | [],t,rows,h=>by cases h;exact ⟨rfl,λ r hr=>by simp at hr,λ p hp=>by simp at hp,λ i hi=>by simp at hi⟩
 | (k,x) :: r,t,rows,h=>by
  unfold zlN at h
  split at h
  ·rename_i ks t' rows' h1 h2
   split at h
   ·rename_i u ls h3
    split at h
    ·rename_i hes
     cases h
     obtain ⟨g1,g2,g3,g4⟩:=zux hr h2
     obtain ⟨c1,c2⟩:=zmD h1 (zkN hr x)
     obtain ⟨l1,l2⟩:=zpa (w:=w) (c:=c) h3
     refine ⟨by simp [g1],λ r hr=>?_,λ p hp=>?_,λ i hi hi' j hj v hv=>?_⟩
     ·rcases List.mem_cons.1 hr with rfl | hr
      ·exact hes
      ·exact g2 _ hr
     ·rcases List.mem_cons.1 hp with rfl | hp
      ·simp only;omega
      ·exact g3 _ hp
     ·cases i with
      | zero =>
       simp only [qbo] at hj hv ⊢
       exact (l2 j (by omega) hj v (c2 j (by omega) v hv)).sub λ b k x=>(Ctx.fs_or x).1
      | succ i =>
       simp only [List.getElem_cons_succ] at hj hv ⊢
       exact (g4 i (by simpa using hi) (by simpa using hi') j hj v hv).sub λ b k x=>(Ctx.fs_or x).2
    ·cases h
   ·cases h
  ·cases h
theorem zre {t el:Nat} {e ee:TE} {len:Nat} {parts:Array (Nat×Operand)} {tt:Bool} {rows:List (List Leaf)} (ht:OkT P t e) (hs:e.sh=.slice el) (he:OkT P el ee) (hpr:zlN s.T ee.size parts.toList=some (tt,rows)) (hidx:parts.toList.map (·.1)=List.range len)
  (hbd:len * ee.size≤16777216∧len≤16777216):Does P (.buildSlice t len parts) s ⟨True,.os s.nx ee.size 0 len len true,(s.nx,some (true,.arr tt ee.size rows)) :: s.H,s.nx+1⟩:=by
 intro w0 W0 cx a w hr _
 obtain ⟨g1,g2,g3,g4⟩:=zux hr hpr
 obtain ⟨z,hz,hzr⟩:=he.runZero
 have hlen:parts.toList.length=len:=by have:=congrArg List.length hidx;simpa using this
 let base:Array Value:=(Array.range (len * ee.size)).map ((if len * ee.size=0 then (#[]:Array Value) else z.cells)[· % (if len * ee.size=0 then (#[]:Array Value) else z.cells).size]!)
 have hbase:base.size=len * ee.size:=by simp [base]
 let vparts:List (Nat×Value):=(parts.map λ (i,x)=>(i,a.eval x)).toList
 have hvp:vparts=parts.toList.map λ p=>(p.1,a.eval p.2):=by simp [vparts]
 have hvl:vparts.length=len:=by rw [hvp];simpa using hlen
 obtain ⟨r,h1,h2,h3,_⟩:=zoP ee.size vparts 0 base (by rw [hvl,← List.range_eq_range',hvp,← hidx];simp) (λ p hp=>by
  rw [hvp,List.mem_map] at hp
  obtain ⟨q,hq,rfl⟩:=hp
  exact g3 q hq) (by rw [ql,hvl,hbase];exact qg _)
 have hcs:CellsOf w (cx.fs tt) ee.size r.toList rows:=by
  refine ⟨by rw [qbb,h2,hbase,g1,hlen],g2,λ i j hi hj v hv=>?_⟩
  have hje:j < ee.size:=by rw [← g2 _ (qa hi)];exact hj
  have:=h3 i (by omega) j hje
  rw [ql] at this
  have hv':r[i * ee.size+j]?=some v:=by simpa using hv
  rw [this] at hv'
  have hgi:(vparts[i]'(by omega)).2=a.eval (parts.toList[i]'(by omega)).2:=by simp [hvp]
  rw [hgi] at hv'
  exact g4 i (by omega) hi j hj v hv'
 obtain ⟨hsit,hsame⟩:=zoy (fr:=true) (n:=len * ee.size) hr.sit (Keep.refl _ w) rfl el r (by rw [h2,hbase]) (λ _ _ h=>h) hcs (by simp) (λ j v hj=>by simpa using hj)
 refine ⟨.value (.slice (some ⟨w.heap.size,0,none⟩) len len),_,_,_,λ o ho=>?_,.inl rfl,cx.le_push (Loc.flat (w.heap.size) (0) (len * ee.size)),by show cx.nx+1=s.nx+1;rw [hr.nx],?_,hsame,?_⟩
 ·unfold execOp
  rw [ho]
  have hnb:¬ (len * ee.size > 2 ^ 24):=by have:=hbd.1;omega
  have h1':Instr.fill (λ i=>some (i * ee.size,ee.size)) ((Array.range (len * ee.size)).map λ x=>(if len * ee.size=0 then (#[]:Array Value) else z.cells)[x % (if len * ee.size=0 then (#[]:Array Value) else z.cells).size]!) (parts.map λ (i,x)=>(i,a.eval x)).toList=some r:=h1
  simp only [Instr.buildSlice,Sem.run_bind,zkS (ht.slice hs),Result.andThen_ok,he.runSize,hnb,if_false]
  by_cases h0:len * ee.size=0
  ·simp only [h0,if_true] at h1' ⊢
   simp only [Sem.run_bind,Sem.run_pure,Result.andThen_ok,h1',newRow,run_newObj,zmh]
  ·simp only [h0,if_false] at h1' ⊢
   simp only [Sem.run_bind,Sem.run_pure,hzr,Result.andThen_ok,h1',newRow,run_newObj,zmh]
 ·show Sit w0 W0 _ (hp ((s.nx,_) :: s.H)) _
  rw [zkD,← hr.nx]
  exact hsit
 ·show Cv _ _ (.os s.nx ee.size 0 len len true) _
  rw [← hr.nx]
  refine .os (qk _) (qg _) (by omega) (λ _=>rfl) (.inr ?_) ?_
  ·rw [Ctx.push_loc];simp
  ·rw [Ctx.push_loc];simp
def zpB (tab:Tab):List (Nat×Nat)→Option (List (Nat×Nat))
 | []=>some []
 | (ft,fo) :: r=>match zkm tab ft,zpB tab r with
  | some et,some ps=>some ((fo,et.size) :: ps)
  | _,_=>none
def zlX (T:List (Nat×LV)) (ps:List (Nat×Nat)):List LV→List (Nat×Operand)→Option (List LV)
 | cells,[]=>some cells
 | cells,(i,x) :: r=>match ps[i]?,zlh (ev T x) with
  | some (fo,n),some ks=>if ks.length=n∧fo+n≤cells.length then zlX T ps (put cells fo ks) r else none
  | _,_=>none
theorem zpt {w0 w:World} {W0:Fr} {c:Ctx} {a:Act} (hr:Rel w0 W0 c s a w) {ps:List (Nat×Nat)} {place:Nat→Option (Nat×Nat)} (hpl:∀ i,place i=ps[i]?):∀ (l:List (Nat×Operand)) (ls:List LV) (cells:Array Value) (out:List LV),zlX s.T ps ls l=some out →
  cells.size=ls.length→(∀ j (hj:j < ls.length) v,cells[j]?=some v→Cv w c (ls[j]) v) →
  ∃ r,Instr.fill place cells (l.map λ p=>(p.1,a.eval p.2))=some r∧r.size=out.length∧∀ j (hj:j < out.length) v,r[j]?=some v→Cv w c (out[j]) v
 | [],ls,cells,out,h,hn,hc=>by cases h;exact ⟨cells,rfl,hn,hc⟩
 | (i,x) :: l,ls,cells,out,h,hn,hc=>by
  unfold zlX at h
  split at h
  ·rename_i fo n ks h1 h2
   split at h
   ·rename_i hb
    obtain ⟨c1,c2⟩:=zmD h2 (zkN hr x)
    have hlay:=ztJ fo (a.eval x).cells.toList 0 cells
    simp only [qv] at hlay
    obtain ⟨l1,l2⟩:=hlay
    have hfold:(a.eval x).cells.zipIdx.foldl (λ cs (c,j)=>cs.setIfInBounds (fo+j) c) cells=((a.eval x).cells.toList.zipIdx 0).foldl (λ cs p=>cs.setIfInBounds (fo+p.2) p.1) cells:=by
     rw [← qby]
     simp [qbv]
    have hb':fo+ks.length≤ls.length:=by omega
    obtain ⟨r,g1,g2,g3⟩:=zpt hr hpl l (put ls fo ks) (((a.eval x).cells.toList.zipIdx 0).foldl (λ cs p=>cs.setIfInBounds (fo+p.2) p.1) cells) out h (by rw [l1,zlD _ _ _ hb',hn]) (λ j hj v hv=>by
     rw [zlD _ _ _ hb'] at hj
     rw [l2] at hv
     simp only [qbb] at hv
     by_cases hin:fo≤j∧j < fo+ks.length
     ·rw [if_pos (by omega)] at hv
      have:=ztC ls fo ks hb' (j - fo) (by omega) (by rw [zlD _ _ _ hb'];omega)
      have he:(put ls fo ks)[j]'(by rw [zlD _ _ _ hb'];exact hj)=ks[j - fo]'(by omega):=by
       rw [← this]
       congr 1
       omega
      rw [he]
      exact c2 (j - fo) (by omega) v (by simpa using hv)
     ·rw [if_neg (by omega)] at hv
      rw [zrn ls fo ks hb' j hj (by omega)]
      exact hc j hj v hv)
    refine ⟨r,?_,g2,g3⟩
    have hcond:¬ ((decide ((a.eval x).cells.size≠n) || decide (fo+(a.eval x).cells.size > cells.size))=true):=by
     simp
     omega
    simp only [qp]
    unfold Instr.fill
    rw [hpl i,h1]
    simp only
    rw [if_neg hcond,hfold]
    exact g1
   ·cases h
  ·cases h
theorem zrK {tab:Tab} (htab:zlK P tab):∀ (fields:List Field) (ps:List (Nat×Nat)),zpB tab (fields.map λ f=>(f.type,f.offset))=some ps→fields.mapM (λ f=>(P.info? f.type).map λ i=>(f.offset,i.size))=some ps
 | [],ps,h=>by cases h;rfl
 | f :: r,ps,h=>by
  simp only [qp,zpB] at h
  split at h
  ·rename_i et ps' h1 h2
   cases h
   obtain ⟨i,z,hi,hs,_⟩:=(htab _ (zlL h1)).info
   simp only at hi
   simp [List.mapM_cons,hi,hs,zrK htab r ps' h2]
  ·cases h
theorem zvP {tab:Tab} (htab:zlK P tab) {t:Nat} {e:TE} {fs ps:List (Nat×Nat)} {parts:Array (Nat×Operand)} {ls:List LV} (ht:OkT P t e) (hs:e.sh=.struct fs) (hps:zpB tab fs=some ps) (hp:zlX s.T ps (e.zero.map zlg) parts.toList=some ls) :
  Does P (.build t parts) s ⟨True,.ag ls,s.H,s.nx⟩:=by
 refine .quiet rfl rfl λ w0 W0 c a w hr _=>?_
 obtain ⟨i,z,hi,h1,h2,h3,h4⟩:=ht.info
 obtain ⟨d,hd,hsh⟩:=ht.und
 rw [hs] at hsh
 cases d<;>simp [zmt] at hsh
 rename_i fields
 have hpl:=zrK htab fields.toList ps (by rw [hsh];exact hps)
 obtain ⟨r,g1,g2,g3⟩:=zpt hr (place:=(ps.toArray[·]?)) (λ i=>by simp) parts.toList (e.zero.map zlg) z.cells ls hp (by rw [← qbb,h4];simp) (λ j hj v hv=>by
  have:e.zero[j]?=some v:=by rw [← h4];simpa using hv
  simp only [qi]
  have hj':j < e.zero.length:=by simpa using hj
  rw [List.getElem?_eq_getElem hj'] at this
  cases this
  exact znC _ _ _)
 refine ⟨.agg r,λ o ho=>?_,.ag (λ j=>r.getD j undef) g2 (λ j hj=>?_) λ j hj=>?_⟩
 ·unfold execOp
  rw [ho]
  have hb:P.built t (parts.map λ (i,x)=>(i,a.eval x)).toList=some r:=by
   unfold Program.built
   rw [hi,hd]
   simp only [h3,hpl]
   simpa using g1
  simp only [Sem.run_bind,run_build w t _ r hb,Result.andThen_ok,Sem.run_pure]
 ·have:j < r.size:=by omega
  simp [this]
 ·have:j < r.size:=by omega
  refine g3 j hj _ (by simp [this])
end
end Go.TL
namespace Go.TL
open Go
def zsG (tab:Tab):List (Nat×Nat)→List LV→List LV→Option Bool
 | [], _, _=>some true
 | (ft, fo) :: r, xs, ys=>match zkm tab ft, xs[fo]?.bind sc?, ys[fo]?.bind sc?, zsG tab r xs ys with
  | some e, some x, some y, some b=>match e.sh, x, y with
   | .int _, .int k a, .int k' a'=>if k=k' then some ((a == a') && b) else none
   | .bool, .bool p, .bool q=>some ((p == q) && b)
   | .str, .string p, .string q=>some ((p.toList == q.toList) && b)
   | _, _, _=>none
  | _, _, _, _=>none
def EqT (P:Program) (t:Nat):Prop:=P.stoodInHeld t=false∧P.eqGuardType P.depth t=false∧(P.fieldsOf t).toList.all (λ f=>f.name != "_")=true
section
variable {P:Program} {s:St}
theorem zBh {w:World} {c:Ctx} {ls:List LV} {vs:Array Value} {x:Value} {o:Nat} (h:Cv w c (.ag ls) (.agg vs)) (hx:ls[o]?.bind sc?=some x):vs[o]?=some x:=by
 cases h with
 | ag cs hn hv hc =>
  cases hl:ls[o]? with
  | none=>rw [hl] at hx;cases hx
  | some lv =>
   rw [hl] at hx
   obtain ⟨ho, rfl⟩:=List.getElem?_eq_some_iff.1 hl
   rw [hv o ho, (zl3 hx (hc o ho)).1]
theorem zpu {t:Nat} {e:TE} (h:OkT P t e) (hk:e.sh.known=true) (ha:e.sh.agg=false) {cs:Array Value} {off:Nat} {v:Value} (hv:cs[off]?=some v) (w:World):(part t cs off).run P w=.ok v w:=by
 unfold part
 simp [h.runAgg hk w, ha, hv]
theorem zuy {tab:Tab} (htab:zlK P tab) {w:World} {c:Ctx} {xs ys:List LV} {vs us:Array Value} (hx:Cv w c (.ag xs) (.agg vs)) (hy:Cv w c (.ag ys) (.agg us)) (d:Nat):∀ (fl:List Field) (b:Bool), zsG tab (fl.map λ f=>(f.type, f.offset)) xs ys=some b →
  fl.all (λ f=>f.name != "_")=true→(Op.eqFields (d+1) vs us fl).run P w=.ok b w
 | [], b, h, _=>by cases h;rfl
 | f :: r, b, h, hn=>by
  simp only [qp, zsG] at h
  simp only [qcl, qcf, bne_iff_ne, ne_eq] at hn
  split at h
  ·rename_i e x y b' he h1 h2 h3
   have hT:=htab _ (zlL he)
   have e1:=zBh hx h1
   have e2:=zBh hy h2
   have ih:=zuy htab hx hy d r b' h3 hn.2
   have fin:∀ (q:Bool), e.sh.known=true→e.sh.agg=false→(Op.equalIn (d+1) f.type x y).run P w=.ok q w→b=(q && b')→(Op.eqFields (d+1) vs us (f :: r)).run P w=.ok b w:=by
    intro q hk ha hq hb
    simp only [Op.eqFields, hn.1, ne_eq, not_false_eq_true, if_true, Sem.run_bind, zpu hT hk ha e1 w, zpu hT hk ha e2 w, Result.andThen_ok, hq]
    cases q
    ·simp [hb]
    ·simp [ih, hb]
   split at h
   ·rename_i k k1 a k2 a' hs
    split at h
    ·rename_i hkk
     subst hkk
     cases h
     exact fin (a == a') (by rw [hs];rfl) (by rw [hs];rfl) (run_equalIn_int w d _ _ _ _ _ (hT.int hs)) rfl
    ·cases h
   ·rename_i p q hs
    cases h
    exact fin (p == q) (by rw [hs];rfl) (by rw [hs];rfl) (run_equalIn_bool' w d _ _ _ (hT.bool hs)) rfl
   ·rename_i p q hs
    cases h
    exact fin (p.toList == q.toList) (by rw [hs];rfl) (by rw [hs];rfl) (run_equalIn_string w d _ _ _ (hT.str hs)) rfl
   ·cases h
  ·cases h
theorem zsV {tab:Tab} (htab:zlK P tab) {t t':Nat} {e:TE} {x y:Operand} {fs:List (Nat×Nat)} {xs ys:List LV} {b:Bool} {op:BinOp} (ht:OkT P t e) (hs:e.sh=.struct fs) (hop:op=.eql∨op=.neq) (hx:ev s.T x=.ag xs) (hy:ev s.T y=.ag ys) (hb:zsG tab fs xs ys=some b) :
  Does P (.binOp op t x y t') s ⟨EqT P t, .lf false (.sc (.bool (if op=.eql then b else !b))), s.H, s.nx⟩:=by
 refine .quiet rfl rfl λ w0 W0 c a w hr ⟨g1, g2, g3⟩=>?_
 have hx':=zkN hr x
 have hy':=zkN hr y
 rw [hx] at hx'
 rw [hy] at hy'
 obtain ⟨d, hd, hsh⟩:=ht.und
 rw [hs] at hsh
 cases d<;>simp [zmt] at hsh
 rename_i fields
 have hfo:P.fieldsOf t=fields:=by unfold Program.fieldsOf;rw [hd]
 generalize hv:a.eval x=v at hx'
 generalize hu:a.eval y=u at hy'
 have hx2:=hx'
 have hy2:=hy'
 cases hx' with
 | @ag _ vs cs _ _ _ =>
  cases hy' with
  | @ag _ us ds _ _ _ =>
   have hrun:=zuy htab hx2 hy2 9998 fields.toList b (by rw [hsh];exact hb) (by rw [← hfo];exact g3)
   have h1:(Op.equalIn 10000 t (.agg vs) (.agg us)).run P w=.ok b w:=by
    rw [run_equalIn_struct w 9999 t vs us (by rw [hfo];exact hd) g1, hfo]
    exact hrun
   refine ⟨_, λ o ho=>?_, .lf (.sc rfl)⟩
   unfold execOp
   rw [ho]
   simp only [hv, hu]
   have hg:=run_eqGuard_agg (P:=P) w op t x y vs us g2
   rcases hop with rfl | rfl
   ·simp [hg, run_eql_struct, h1]
   ·simp [hg, run_neq_struct, h1]
def mm (b:Builtin) (x y:Int):Option Int:=match b with
 | .min=>some (min x y)
 | .max=>some (max x y)
 | _=>none
theorem zAp {b:Builtin} {c:Call} {x y:Operand} {k k':IntKind} {p q n:Int} (hc:c.callee=.builtin b) (ha:c.args=#[x, y]) (hx:sc? (ev s.T x)=some (.int k p)) (hy:sc? (ev s.T y)=some (.int k' q)) (hn:mm b p q=some n) :
  Does P (.call c) s ⟨True, .lf false (.sc (.int k n)), s.H, s.nx⟩:=by
 refine .quiet rfl rfl λ w0 W0 cc a w hr hpre=>?_
 have hx':=(zl3 hx (zkN hr x)).1
 have hy':=(zl3 hy (zkN hr y)).1
 refine ⟨.int k n, λ o ho=>?_, .lf (.sc rfl)⟩
 unfold execOp
 rw [ho]
 cases b<;>simp [mm] at hn<;>subst hn
 ·have h1:(if q > p then q else p)=max p q:=by omega
  simp [resolve, hc, ha, hx', hy', invoke, builtin, Builtin.max_, Builtin.max2, h1]
 ·have h1:(if q < p then q else p)=min p q:=by omega
  simp [resolve, hc, ha, hx', hy', invoke, builtin, Builtin.min_, Builtin.min2, h1]
def zwC:List Leaf→Option Int
 | [.sc (.int .u8 n)]=>some n
 | _=>none
def znp:List (List Leaf)→Option (List Int)
 | []=>some []
 | r :: q=>match zwC r, znp q with
  | some n, some l=>some (n :: l)
  | _, _=>none
theorem zq1:∀ {rows:List (List Leaf)} {ns:List Int}, znp rows=some ns→ns.length=rows.length∧∀ i (hi:i < rows.length) (hi':i < ns.length), rows[i]=[.sc (.int .u8 (ns[i]))]
 | [], ns, h=>by cases h;exact ⟨rfl, λ i hi=>by simp at hi⟩
 | r :: q, ns, h=>by
  unfold znp at h
  split at h
  ·rename_i n l h1 h2
   cases h
   obtain ⟨g1, g2⟩:=zq1 h2
   refine ⟨by simp [g1], λ i hi hi'=>?_⟩
   cases i with
   | zero =>
    unfold zwC at h1
    split at h1
    ·cases h1;rfl
    ·cases h1
   | succ i=>exact g2 i (by simpa using hi) (by simpa using hi')
  ·cases h
theorem zuz {w:World} {f:Value→ByteArray→Sem (ForInStep ByteArray)} (hf:∀ n s, f (.int .u8 n) s=pure (.yield (s.push (UInt8.ofNat n.toNat)))):∀ (ns:List Int) (s0:ByteArray) (vs:List Value), vs=ns.map (Value.int .u8 ·) →
  (forIn vs s0 f:Sem ByteArray).run P w=.ok (ns.foldl (λ s n=>s.push (UInt8.ofNat n.toNat)) s0) w
 | [], s0, vs, h=>by subst h;rfl
 | n :: r, s0, vs, h=>by
  subst h
  simp only [qp, List.forIn_cons, Sem.run_bind, hf, Sem.run_pure, Result.andThen_ok, qck]
  exact zuz hf r _ _ rfl
theorem zBt {w:World} {S:zkF} {u x:Value} (h:RepL w S u (.sc x)):u=x:=by cases h;rfl
theorem znF {w:World} {a:Option Addr} {ns:List Int} {cap:Nat} {b o:Nat} (ha:ns.length≠0→a=some ⟨b, o, none⟩) (hc:∀ j (hj:j < ns.length), w.cell? ⟨b, o+j, none⟩=some (.int .u8 (ns[j]))) :
  (Conv.bytesToString (.slice a ns.length cap)).run P w=.ok (.string (zvK ns)) w:=by
 have main:∀ ad:Addr, (ns.length≠0→ad=⟨b, o, none⟩)→(Conv.bytesToString (.slice (some ad) ns.length cap)).run P w=.ok (.string (zvK ns)) w:=by
  intro ad had
  have hl:(loadCells ad ns.length).run P w=.ok ((List.range ns.length).map λ j=>Value.int .u8 (ns.getD j 0)).toArray w:=by
   refine run_loadCells w ad ns.length _ λ j hj=>?_
   rw [had (by omega), zmi, hc j hj]
   simp [hj]
  have hv:((List.range ns.length).map λ j=>Value.int .u8 (ns.getD j 0))=ns.map (Value.int .u8 ·):=by
   apply List.ext_getElem
   ·simp
   ·intro i h1 h2
    have:i < ns.length:=by simpa using h2
    simp [this]
  unfold Conv.bytesToString
  simp only [Sem.run_bind, hl, Result.andThen_ok]
  rw [hv]
  simp only [List.forIn_toArray]
  rw [zuz (λ _ _=>rfl) ns ByteArray.empty _ rfl]
  simp [zvK]
 cases a with
 | none =>
  have h0:ns.length=0:=by
   rcases qu ns.length with h | h
   ·exact h
   ·exact absurd (ha (by omega)) (by simp)
  have:ns=[]:=qe h0
  subst this
  rfl
 | some ad=>exact main ad λ h=>by simpa using ha h
theorem zsH {t u el:Nat} {e f ee:TE} {x:Operand} {tt:Bool} {rows:List (List Leaf)} {ns:List Int} (ht:OkT P t e) (hte:e.sh=.slice el) (hel:OkT P el ee) (hee:ee.sh=.int .u8) (hu:OkT P u f) (huf:f.sh=.str) (hx:zlR (hp s.H) (ev s.T x)=some (tt, rows)) (hns:znp rows=some ns) :
  Does P (.convert t u x) s ⟨True, .lf false (.sc (.string (zvK ns))), s.H, s.nx⟩:=by
 refine .quiet rfl rfl λ w0 W0 c a w hr _=>?_
 obtain ⟨g1, g2⟩:=zq1 hns
 obtain ⟨ad, cap, cs, hv, hcap, hcs, hrd⟩:=zvN hr.sit hx (es:=1) (λ r hr=>by
  obtain ⟨i, hi, rfl⟩:=qo hr
  rw [g2 i hi (by omega)]
  rfl) (zkN hr x)
 refine ⟨_, λ o ho=>?_, .lf (.sc rfl)⟩
 unfold execOp
 rw [ho]
 have hrun:(Conv.bytesToString (.slice ad rows.length cap)).run P w=.ok (.string (zvK ns)) w:=by
  rw [← g1]
  by_cases h0:rows.length=0
  ·exact znF (b:=0) (o:=0) (λ h=>absurd (by omega) h) λ j hj=>by omega
  ·obtain ⟨b, oo, rfl, hcell⟩:=hrd h0
   refine znF (b:=b) (o:=oo) (λ _=>rfl) λ j hj=>?_
   have hj':j < rows.length:=by omega
   obtain ⟨c1, _, c3⟩:=hcs
   have hjc:j < cs.length:=by rw [c1];omega
   rw [hcell j _ (List.getElem?_eq_getElem hjc)]
   have:=c3 j 0 hj' (by rw [g2 j hj' hj];simp) (cs[j]) (by simp [hjc])
   have hrow:(rows[j])[0]'(by rw [g2 j hj' hj];simp)=.sc (.int .u8 (ns[j])):=by simp [g2 j hj' hj]
   rw [hrow] at this
   rw [zBt this]
 simp only [hv, convert, Sem.run_bind, zkS (ht.slice hte), zkS (hu.str huf), zkS (hel.int hee), Result.andThen_ok, hrun, Sem.run_pure]
end
end Go.TL

import Derived.Test.YteonagfnhdlfcaaGreatDoorTlDraw4
import Derived.Deep.LoopGhost
set_option linter.unusedSimpArgs false
set_option linter.unusedVariables false
noncomputable section
namespace Go.TL
open Go
def Rl (w0:World) (W0:Fr) (c0:Ctx) (s:St) (a:Act) (w:World):Prop:=∃ c, c0.Le c∧Rel w0 W0 c s a w
def Weak (m:Nat) (s s2:St):Prop:=∀ (w0:World) (W0:Fr) (c0:Ctx) (a:Act) (w:World), c0.nx=m→Rl w0 W0 c0 s a w→Rl w0 W0 c0 s2 a w
theorem Weak.refl (m:Nat) (s:St):Weak m s s:=λ _ _ _ _ _ _ h=>h
theorem Weak.trans {m:Nat} {a b c:St} (h:Weak m a b) (k:Weak m b c):Weak m a c:=λ w0 W0 c0 x w hm hr=>k w0 W0 c0 x w hm (h w0 W0 c0 x w hm hr)
def zAt (cfs:List (Nat×List (Nat×Nat))) (id:Nat):List (Nat×Nat):=(zkm cfs id).getD []
def znq (T:List (Nat×LV)):List (Nat×Nat)→List (Nat×LV)
 | []=>[]
 | (t, _) :: r=>(t, tv T t) :: znq T r
def St.prune (s:St) (l:Option (List (Nat×Nat))):St:=match l with
 | none=>s
 | some l=>⟨znq s.T l, s.H, s.nx, s.nt⟩
theorem zuR {T:List (Nat×LV)} {t:Nat}:∀ {l:List (Nat×Nat)}, tv (znq T l) t=tv T t∨tv (znq T l) t=.un
 | []=>.inr rfl
 | (k, _) :: r=>by
  unfold tv znq
  simp only [zkm]
  by_cases e:t=k
  ·left;rw [if_pos e, e];rfl
  ·rw [if_neg e];exact zuR (l:=r)
theorem zs8 {w0:World} {W0:Fr} {c:Ctx} {s:St} {a:Act} {w:World} (hr:Rel w0 W0 c s a w) (l:Option (List (Nat×Nat))):Rel w0 W0 c (s.prune l) a w:=by
 cases l with
 | none=>exact hr
 | some l =>
  refine ⟨hr.sit, hr.nx, λ t=>?_, hr.sz, hr.df⟩
  rcases zuR (T:=s.T) (t:=t) (l:=l) with h | h
  ·show Cv w c (tv (znq s.T l) t) _
   rw [h];exact hr.tmp t
  ·show Cv w c (tv (znq s.T l) t) _
   rw [h];exact .un _
def znM (cfs:List (Nat×List (Nat×Nat))):Code→Bool
 | .cond (.tmp d) _ _=>(zkm cfs (d+2000)).isSome
 | .block id _=>(zkm cfs (id+3000)).isSome
 | .region id _ _=>(zkm cfs (id+4000)).isSome
 | .seq _ y=>znM cfs y
 | _=>false
def zxv (P:Program) (tab:Tab) (cfs:List (Nat×List (Nat×Nat))) (id:Nat) (ops:Array Oper) (dr:Bool) (s:St) (Q:Exit→St→Prop):Prop:=match dr with
 | false=>zp1 P tab ops ops.toList s λ s'=>Q .normal (s'.prune (zkm cfs (id+1000)))
 | true=>zoY P tab ops (zAt cfs id) ops.toList 0 s [] λ s'=>Q .normal (s'.prune (zkm cfs (id+1000)))
def wpC (P:Program) (tab:Tab) (cfs:List (Nat×List (Nat×Nat))) (m:Nat):Code→St→(Exit→St→Prop)→Prop
 | .skip, s, Q=>Q .normal s
 | .region id ops dr, s, Q=>match (zkm cfs (id+5000)).isSome with
  | false=>zxv P tab cfs id ops dr s Q
  | true=>∃ s2, Weak m s s2∧zxv P tab cfs id ops dr s2 Q
 | .seq x y, s, Q=>match znM cfs x with
  | false=>wpC P tab cfs m x s λ e s'=>match e with
   | .normal=>wpC P tab cfs m y s' Q
   | e=>Q e s'
  | true=>∃ J:St→Prop, (wpC P tab cfs m x s λ e s'=>match e with
   | .normal=>∃ s2, Weak m s' s2∧J s2
   | e=>Q e s')∧∀ s2, J s2→wpC P tab cfs m y s2 Q
 | .cond (.tmp d) x y, s, Q=>zyE (tv s.T d) λ b=>(b=true→wpC P tab cfs m x (s.know d true) Q)∧(b=false→wpC P tab cfs m y (s.know d false) Q)
 | .block id x, s, Q=>wpC P tab cfs m x s λ e s'=>match e with
  | .exit id'=>if id'=id then Q .normal s' else Q (.exit id') s'
  | e=>Q e s'
 | .exit id, s, Q=>Q (.exit id) s
 | .ret, s, Q=>Q .ret s
 | .loop x, s, Q=>∃ (I:Nat→St→Prop) (n:Nat), (∃ s2, Weak m s s2∧I n s2)∧∀ n s, I n s→wpC P tab cfs m x s λ e s'=>match e with
  | .normal=>∃ n', n' < n∧∃ s2, Weak m s' s2∧I n' s2
  | e=>Q e s'
 | _, _, _=>False
def zrh (cfs:List (Nat×List (Nat×Nat))):Code→Bool
 | .region id ops true=>chk (zAt cfs id) ops
 | .seq x y=>zrh cfs x && zrh cfs y
 | .cond _ x y=>zrh cfs x && zrh cfs y
 | .block _ x=>zrh cfs x
 | .loop x=>zrh cfs x
 | _=>true
theorem zmp {P:Program} {tab:Tab} (htab:zlK P tab) (hmo:P.follows .mixedOrders=true) {cfs:List (Nat×List (Nat×Nat))} {m:Nat} {w0:World} {W0:Fr} {c0:Ctx} (hm:c0.nx=m):∀ (x:Code) (s:St) (Q:Exit→St→Prop) (a:Act) (w:World), zrh cfs x=true →
  wpC P tab cfs m x s Q→Rl w0 W0 c0 s a w→x.wp P (λ e a w=>∃ s', Rl w0 W0 c0 s' a w∧Q e s') a w
 | .skip, s, Q, a, w, _, h, hr=>wp_skip ⟨s, hr, h⟩
 | .region id ops dr, s, Q, a, w, hc, h, hr=>by
  unfold wpC at h
  obtain ⟨s, h, hr⟩:∃ s2, zxv P tab cfs id ops dr s2 Q∧Rl w0 W0 c0 s2 a w:=by
   cases hf:(zkm cfs (id+5000)).isSome with
   | false=>rw [hf] at h;exact ⟨s, h, hr⟩
   | true=>rw [hf] at h;obtain ⟨s2, hw2, h⟩:=h;exact ⟨s2, h, hw2 w0 W0 c0 a w hm hr⟩
  obtain ⟨c, hle, hr⟩:=hr
  unfold zxv at h
  cases dr with
  | false =>
   refine wp_region ?_
   have:=zn9 (Q:=λ e a w=>∃ s', Rl w0 W0 c0 s' a w∧Q e s') htab ops.toList 0 s c a w (by simp) h hr λ s' a' w' c' hle' hr' hK=>⟨_, ⟨c', hle.trans hle', zs8 hr' _⟩, hK⟩
   rw [List.range_eq_range']
   simpa using this
  | true=>exact zv1 htab hmo hc h hr λ s' a' w' c' hle' hr' hK=>⟨_, ⟨c', hle.trans hle', zs8 hr' _⟩, hK⟩
 | .seq x y, s, Q, a, w, hc, h, hr=>by
  simp only [zrh, Bool.and_eq_true] at hc
  unfold wpC at h
  cases hcut:znM cfs x with
  | false =>
   rw [hcut] at h
   refine wp_seq (wp_mono (zmp htab hmo hm x s _ a w hc.1 h hr) λ e a' w' ⟨s', hr', hq⟩=>?_)
   cases e with
   | normal=>exact zmp htab hmo hm y s' Q a' w' hc.2 hq hr'
   | _=>exact ⟨s', hr', hq⟩
  | true =>
   rw [hcut] at h
   obtain ⟨J, h1, h2⟩:=h
   refine wp_seq (wp_mono (zmp htab hmo hm x s _ a w hc.1 h1 hr) λ e a' w' ⟨s', hr', hq⟩=>?_)
   cases e with
   | normal =>
    obtain ⟨s2, hw2, hJ⟩:=hq
    exact zmp htab hmo hm y s2 Q a' w' hc.2 (h2 s2 hJ) (hw2 w0 W0 c0 a' w' hm hr')
   | _=>exact ⟨s', hr', hq⟩
 | .cond (.tmp d) x y, s, Q, a, w, hc, h, hr=>by
  simp only [zrh, Bool.and_eq_true] at hc
  obtain ⟨c, hle, hr⟩:=hr
  unfold wpC at h
  obtain ⟨b, hb, h⟩:=zwE h
  have hv:a.tmps.getD d undef=.bool b:=(zl3 hb (hr.tmp d)).1
  refine wp_cond_split (t:=b) hv (λ ht=>?_) λ hf=>?_
  ·exact zmp htab hmo hm x _ Q a w hc.1 (h.1 ht) ⟨c, hle, zpZ hr (by rw [hv, ht])⟩
  ·exact zmp htab hmo hm y _ Q a w hc.2 (h.2 hf) ⟨c, hle, zpZ hr (by rw [hv, hf])⟩
 | .cond (.const _) _ _, _, _, _, _, _, h, _=>h.elim
 | .cond (.global _) _ _, _, _, _, _, _, h, _=>h.elim
 | .cond (.func _) _ _, _, _, _, _, _, h, _=>h.elim
 | .block id x, s, Q, a, w, hc, h, hr=>by
  refine wp_block (wp_mono (zmp htab hmo hm x s _ a w hc h hr) λ e a' w' ⟨s', hr', hq⟩=>?_)
  cases e with
  | exit id' =>
   simp only [Exit.inBlock]
   simp only at hq
   by_cases e:id'=id
   ·rw [if_pos e] at hq;rw [if_pos e];exact ⟨s', hr', hq⟩
   ·rw [if_neg e] at hq;rw [if_neg e];exact ⟨s', hr', hq⟩
  | _=>exact ⟨s', hr', hq⟩
 | .exit id, s, Q, a, w, _, h, hr=>wp_exit ⟨s, hr, h⟩
 | .ret, s, Q, a, w, _, h, hr=>wp_ret ⟨s, hr, h⟩
 | .loop x, s, Q, a, w, hc, h, hr=>by
  obtain ⟨I, n, ⟨s2, hw2, h0⟩, hround⟩:=h
  refine wp_loop_ghost (λ n a w=>∃ s, Rl w0 W0 c0 s a w∧I n s) n ⟨s2, hw2 w0 W0 c0 a w hm hr, h0⟩ λ k a' w' ⟨s', hr', hI⟩=>?_
  refine wp_mono (zmp htab hmo hm x s' _ a' w' hc (hround k s' hI) hr') λ e a2 w2 ⟨s3, hr3, hq⟩=>?_
  cases e with
  | normal =>
   obtain ⟨n', hlt, s4, hw4, hI4⟩:=hq
   exact ⟨n', hlt, s4, hw4 w0 W0 c0 a2 w2 hm hr3, hI4⟩
  | _=>exact ⟨s3, hr3, hq⟩
 | .rangeFunc .., _, _, _, _, _, h, _=>h.elim
 | .scope _, _, _, _, _, _, h, _=>h.elim
 | .label _, _, _, _, _, _, h, _=>h.elim
 | .goto _, _, _, _, _, _, h, _=>h.elim
 | .refuse _, _, _, _, _, _, h, _=>h.elim
def zwK (tab:Tab) (s:St):ResultVar→Option LV
 | .tmp t=>some (tv s.T t)
 | .cell a t=>match zkm tab t, tv s.T a with
  | some e, .pb id off=>match hp s.H id with
   | some (_, .box ls)=>if e.sh.known=true∧off+e.size≤ls.length∧(e.sh.agg=true∨0 < e.size) then some (znm e.sh.agg ((ls.drop off).take e.size)) else none
   | _=>none
  | _, _=>none
def zqw (tab:Tab) (s:St):List ResultVar→Option (List LV)
 | []=>some []
 | r :: q=>match zwK tab s r, zqw tab s q with
  | some x, some y=>some (x :: y)
  | _, _=>none
def zqx:List LV→LV
 | [x]=>x
 | l=>.tu l
def start (args:List LV) (H0:HL) (m nt:Nat):St:=⟨args.zipIdx.map λ p=>(p.2, p.1), H0, m, nt⟩
def zpH:HL→HL→Prop
 | [], _=>True
 | (k, x) :: r, H=>hp H k=x∧zpH r H
theorem zpJ {H:HL} {i:Nat} {o:Bool×Ob}:∀ {H1:HL}, zpH H1 H→hp H1 i=some o→hp H i=some o
 | [], _, h=>by cases h
 | (k, x) :: r, hk, h=>by
  unfold hp at h
  simp only [zkm] at h
  by_cases e:i=k
  ·subst e
   rw [if_pos rfl] at h
   rw [hk.1]
   exact h
  ·rw [if_neg e] at h
   exact zpJ hk.2 h
def zAu (tab:Tab) (rs:List ResultVar) (res:LV) (H1:HL) (nxr:Nat) (e:Exit) (s:St):Prop :=
 (e=.normal∨e=.ret)∧s.nx≤nxr∧(∃ l, zqw tab s rs=some l∧zqx l=res)∧zpH H1 s.H
def zoF (tab:Tab) (m:Nat) (rs:List ResultVar) (res:LV) (H1:HL) (nxr:Nat) (e:Exit) (s:St):Prop:=∃ s2, Weak m s s2∧zAu tab rs res H1 nxr e s2
theorem zlA {tab:Tab} {m:Nat} {rs:List ResultVar} {res:LV} {H1:HL} {nxr:Nat} {e:Exit} {s:St} (s2:St) (hw:Weak m s s2) (h:zAu tab rs res H1 nxr e s2):zoF tab m rs res H1 nxr e s:=⟨s2, hw, h⟩
def zs9 (tmps:Array Value):ResultVar→Sem Value
 | .tmp t=>pure (tmps.getD t undef)
 | .cell a t=>(do loadVar t (← asAddr (tmps.getD a undef)))
theorem zv2 (fn:Func) (tmps:Array Value):results fn tmps=(do let vs ← fn.results.mapM (zs9 tmps);pure (if h:vs.size=1 then vs[0] else .tuple vs)):=by
 unfold results
 refine congrArg (λ (f:ResultVar→Sem Value)=>(do let vs ← fn.results.mapM f;pure (if h:vs.size=1 then vs[0] else .tuple vs):Sem Value)) ?_
 funext r
 cases r<;>rfl
theorem zyO {P:Program} {tab:Tab} (htab:zlK P tab) {w0:World} {W0:Fr} {c:Ctx} {s:St} {a:Act} {w:World} (hr:Rel w0 W0 c s a w) {r:ResultVar} {lv:LV} (h:zwK tab s r=some lv) :
  ∃ v, (zs9 a.tmps r).run P w=.ok v w∧Cv w c lv v:=by
 cases r with
 | tmp t=>cases h;exact ⟨_, rfl, hr.tmp t⟩
 | cell ad t =>
  simp only [zwK] at h
  split at h
  ·rename_i e id off ht hx
   split at h
   ·rename_i fr ls hob
    split at h
    ·rename_i hc
     cases h
     obtain ⟨hk, hb, h1⟩:=hc
     have hx':=hr.tmp ad
     rw [hx] at hx'
     generalize hv:a.tmps.getD ad undef=v at hx'
     cases hx' with
     | pb hid =>
      obtain ⟨g1, g2, g3⟩:Holds w c (c.loc id) (.box ls):=(hr.sit.own id _ hob).2
      have hcell:∀ j, j < e.size→w.cell? ⟨(c.loc id).b, (c.loc id).base+off+j, none⟩=some ((w.cell? ⟨(c.loc id).b, (c.loc id).base+off+j, none⟩).getD undef):=by
       intro j hj
       obtain ⟨u, hu, _⟩:=g2 (off+j) (by omega)
       rw [← Nat.add_assoc] at hu
       rw [hu];rfl
      have h1':e.sh.agg=false→0 < e.size:=λ hf=>by
       rcases h1 with h | h
       ·rw [hf] at h;cases h
       ·exact h
      refine ⟨if e.sh.agg then .agg ((List.range e.size).map λ j=>(w.cell? ⟨(c.loc id).b, (c.loc id).base+off+j, none⟩).getD undef).toArray else (w.cell? ⟨(c.loc id).b, (c.loc id).base+off+0, none⟩).getD undef, ?_, ?_⟩
      rotate_left
      ·have hlen:((ls.drop off).take e.size).length=e.size:=by simp;omega
       have:=zou (agg:=e.sh.agg) (ls:=(ls.drop off).take e.size) (w:=w) (c:=c) (cs:=λ j=>(w.cell? ⟨(c.loc id).b, (c.loc id).base+off+j, none⟩).getD undef) (λ j hj=>by
        rw [hlen] at hj
        simp only [List.getElem_take, List.getElem_drop]
        have:=hcell j hj
        rw [Nat.add_assoc] at this ⊢
        exact g3 (off+j) (by omega) _ this) (by rw [hlen];exact h1')
       rw [hlen] at this
       exact this
      ·have hT:OkT P t e:=htab _ (zlL ht)
       simp only [zs9, hv, Sem.run_bind, asAddr, Sem.run_pure, Result.andThen_ok]
       rw [zmy hT hk e.size rfl h1' hcell]
    ·cases h
   ·cases h
  ·cases h
theorem zuS {P:Program} {α:Type} {w:World} (f:α→Sem Value):∀ (l:List α) (vs:List Value), l.length=vs.length→(∀ j (hj:j < l.length) (hj':j < vs.length), (f (l[j])).run P w=.ok (vs[j]) w)→(l.mapM f).run P w=.ok vs w
 | [], [], _, _=>rfl
 | x :: r, v :: q, hn, h=>by
  have h0:=h 0 (by simp) (by simp)
  simp only [List.getElem_cons_zero] at h0
  have ih:=zuS f r q (by simpa using hn) λ j hj hj'=>h (j+1) (by simpa using hj) (by simpa using hj')
  simp only [List.mapM_cons, Sem.run_bind, h0, Result.andThen_ok, ih, Sem.run_pure]
 | [], _ :: _, hn, _=>by simp at hn
 | _ :: _, [], hn, _=>by simp at hn
theorem zta {P:Program} {tab:Tab} (htab:zlK P tab) {w0:World} {W0:Fr} {c:Ctx} {s:St} {a:Act} {w:World} (hr:Rel w0 W0 c s a w):∀ {rs:List ResultVar} {l:List LV}, zqw tab s rs=some l →
  l.length=rs.length∧∃ vs:List Value, vs.length=rs.length∧(∀ j (hj:j < rs.length) (hj':j < vs.length),
   (zs9 a.tmps (rs[j])).run P w=.ok (vs[j]) w) ∧
   ∀ j (hj:j < l.length) (hj':j < vs.length), Cv w c (l[j]) (vs[j])
 | [], l, h=>by cases h;exact ⟨rfl, [], rfl, λ j hj=>by simp at hj, λ j hj=>by simp at hj⟩
 | r :: q, l, h=>by
  unfold zqw at h
  split at h
  ·rename_i x y h1 h2
   cases h
   obtain ⟨v, hv1, hv2⟩:=zyO htab hr h1
   obtain ⟨hn, vs, hvs, g1, g2⟩:=zta htab hr h2
   refine ⟨by simp [hn], v :: vs, by simp [hvs], λ j hj hj'=>?_, λ j hj hj'=>?_⟩
   ·cases j with
    | zero=>exact hv1
    | succ j=>exact g1 j (by simpa using hj) (by simpa using hj')
   ·cases j with
    | zero=>exact hv2
    | succ j=>exact g2 j (by simpa using hj) (by simpa using hj')
  ·cases h
theorem zyP {args:List LV} {H0:HL} {m nt i:Nat}:tv (start args H0 m nt).T i=(args[i]?).getD .un:=by
 have:∀ (l:List LV) (k:Nat), zkm ((l.zipIdx k).map λ p=>(p.2, p.1)) i=if k≤i then l[i - k]? else none:=by
  intro l
  induction l with
  | nil=>intro k;simp [zkm]
  | cons x r ih =>
   intro k
   simp only [List.zipIdx_cons, List.map_cons, zkm]
   by_cases e:i=k
   ·subst e;simp
   ·rw [if_neg e, ih (k+1)]
    by_cases h:k+1≤i
    ·rw [if_pos h, if_pos (by omega), show i - k=i - (k+1)+1 by omega];rfl
    ·rw [if_neg h, if_neg (by omega)]
 unfold tv start
 simp only [this args 0, Nat.zero_le, if_true, Nat.sub_zero]
def Ctx.up (c:Ctx) (n:Nat):Ctx:={ c with nx:=n }
theorem Ctx.le_up {c:Ctx} {n:Nat} (h:c.nx≤n):c.Le (c.up n):=⟨rfl, λ _ _ h=>h, h, λ _ _=>Loc.same.refl _⟩
theorem Sit.up {w0 w:World} {W0:Fr} {c:Ctx} {H:zkO} (s:Sit w0 W0 c H w) {n:Nat} (h:c.nx≤n):Sit w0 W0 (c.up n) H w :=
 ⟨s.keep, λ i o hi=>⟨Nat.lt_of_lt_of_le (s.own i o hi).1 h, (s.own i o hi).2.mono (Ctx.le_up h) (.refl c w) λ _ _ _=>⟨rfl, rfl⟩⟩, s.dis, s.sep, s.old, s.new, s.res, s.pl, s.mo⟩
theorem zAv {P:Program} {tab:Tab} (htab:zlK P tab) (hmo:P.follows .mixedOrders=true) (cfs:List (Nat×List (Nat×Nat))) {f:FuncId} {fn:Func} {code:Code} (hf:P.funcs[f]?=some fn) (hb:fn.body=some code) (hn:(fn.name == "runtime.NumGoroutine")=false)
  {args:List LV} {H0 H1:HL} {m nxr:Nat} {res:LV} (hlen:args.length≤fn.ntmps) (hc:zrh cfs code=true)
  (h:wpC P tab cfs m code (start args H0 m fn.ntmps) (zoF tab m fn.results.toList res H1 nxr)):Fn P f args H0 m res H1 nxr:=by
 refine ⟨Ent.of hf (by rw [hb];rfl) hn, λ w F loc vs hsit hvs hv=>calls_of_wp hf hb ?_⟩
 have hr:Rl w (frm (rng loc (hp H0))) (zm6 F loc m) (start args H0 m fn.ntmps) { tmps:=vs++Array.replicate (fn.ntmps - vs.size) undef, defers:=[] } w:=by
  refine ⟨_, .refl _, hsit, rfl, λ i=>?_, by simp [start];omega, rfl⟩
  rw [zyP]
  by_cases hi:i < args.length
  ·obtain ⟨v, h1, h2⟩:=hv i hi
   have:(vs++Array.replicate (fn.ntmps - vs.size) undef).getD i undef=v:=by
    simp only [Array.getD_eq_getD_getElem?]
    rw [Array.getElem?_append, if_pos (by omega), h1];rfl
   rw [this, List.getElem?_eq_getElem hi]
   exact h2
  ·rw [List.getElem?_eq_none (by omega)]
   exact .un _
 refine wp_mono (zmp htab hmo rfl code _ _ _ w hc h hr) λ e a' w' ⟨s1, hr1, hE⟩=>?_
 obtain ⟨s', hwk, hend⟩:=hE
 obtain ⟨c', hle, hr'⟩:=hwk _ _ _ _ _ rfl hr1
 obtain ⟨he, hnx, ⟨l, hl, hres⟩, hH⟩:=hend
 obtain ⟨hln, vs', hvn, g1, g2⟩:=zta htab hr' hl
 have hrun:∃ v, (results fn a'.tmps).run P w'=.ok v w'∧Cv w' c' res v:=by
  have hm:=zuS (P:=P) (w:=w') (zs9 a'.tmps) fn.results.toList vs' (by simpa using hvn.symm) (λ j hj hj'=>g1 j hj hj')
  have hm':(fn.results.mapM (zs9 a'.tmps)).run P w'=.ok vs'.toArray w':=by
   rw [Array.mapM_eq_mapM_toList, Sem.run_map, hm]
   rfl
  refine ⟨if h:vs'.toArray.size=1 then vs'.toArray[0] else .tuple vs'.toArray, ?_, ?_⟩
  ·rw [zv2, Sem.run_bind, hm']
   simp only [Result.andThen_ok, Sem.run_pure]
  ·rw [← hres]
   have hlv:l.length=vs'.length:=by omega
   by_cases h1:vs'.toArray.size=1
   ·rw [dif_pos h1]
    match l, vs', hlv, h1, g2 with
    | [x], [v], _, _, g2=>exact g2 0 (by simp) (by simp)
    | [], [], _, h1, _=>simp at h1
    | _ :: _ :: _, _ :: _ :: _, _, h1, _=>simp at h1
   ·rw [dif_neg h1]
    have hne:zqx l=.tu l:=by
     match l, hlv, h1 with
     | [], _, _=>rfl
     | [x], hlv, h1=>simp at hlv h1;omega
     | _ :: _ :: _, _, _=>rfl
    rw [hne]
    refine .tu (λ j=>vs'.getD j undef) (by simp [hlv]) (λ j hj=>?_) λ j hj=>?_
    ·have:j < vs'.length:=by omega
     simp [this]
    ·have:j < vs'.length:=by omega
     simp only [List.getD, List.getElem?_eq_getElem this, Option.getD_some]
     exact g2 j hj this
 obtain ⟨v, hrun, hcv⟩:=hrun
 have hlen':c'.nx≤nxr:=by rw [hr'.nx];exact hnx
 rcases he with rfl | rfl
 ·exact ⟨hr'.df, v, hrun, v, c'.up nxr, rfl, hle.trans (Ctx.le_up hlen'), rfl, (hr'.sit.up hlen').less λ i o ho=>zpJ hH ho, hcv.mono (Ctx.le_up hlen') (.refl _ _)⟩
 ·exact ⟨hr'.df, v, hrun, v, c'.up nxr, rfl, hle.trans (Ctx.le_up hlen'), rfl, (hr'.sit.up hlen').less λ i o ho=>zpJ hH ho, hcv.mono (Ctx.le_up hlen') (.refl _ _)⟩
theorem nr {α:Sort _} {a b:α} (h:a=b):a=b:=h
attribute [irreducible] zoF
end Go.TL

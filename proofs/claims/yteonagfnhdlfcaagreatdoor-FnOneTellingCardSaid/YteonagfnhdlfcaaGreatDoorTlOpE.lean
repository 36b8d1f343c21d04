import Derived.Test.YteonagfnhdlfcaaGreatDoorG0TlCore
import Derived.Test.YteonagfnhdlfcaaGreatDoorG1TlDeep
import Derived.Deep.LoopGhost
open Array renaming toArray_toList → qa
open Nat renaming le_max_left → qb
set_option linter.unusedSimpArgs false
set_option linter.unusedVariables false
noncomputable section
namespace Go.TL
open Go
def Ent (P:Program) (f:FuncId):Prop:=∀ (args:Array Value) (w:World), (callFunc f args).run P w=.ok (.enter f args) w
theorem Ent.of {P:Program} {f:FuncId} {fn:Func} (hf:P.funcs[f]?=some fn) (hb:fn.body.isSome=true) (hn:(fn.name == "runtime.NumGoroutine")=false):Ent P f:=by
 intro args w
 have hb':fn.body.isNone=false:=by cases h:fn.body<;>simp_all
 simp only [callFunc, Sem.run_bind, run_program, Result.andThen_ok, hf, hn, hb', Bool.false_eq_true, if_false, Sem.run_pure]
def Fn (P:Program) (f:FuncId) (args:List LV) (H0:HL) (m:Nat) (res:LV) (H1:HL) (nxr:Nat):Prop:=Ent P f∧zB7 P f args H0 m res H1 nxr
def zyB (P:Program) (tab:Tab) (op:BinOp) (t:Nat) (A B:LV):Option (Prop×LV) :=
 match sc? A, sc? B with
 | some (.bool p), some (.bool q)=>match zkm tab t with
  | some e=>match e.sh, op with
   | .bool, .eql=>some (True, .lf false (.sc (.bool (p == q))))
   | .bool, .neq=>some (True, .lf false (.sc (.bool (!(p == q)))))
   | _, _=>none
  | none=>none
 | some x, some y=>match bin op x y with
  | some v=>some (znd op x y, .lf false (.sc v))
  | none=>none
 | _, _=>match A, B, zkm tab t with
  | .ag xs, .ag ys, some e=>match e.sh with
   | .struct fs=>match zsG tab fs xs ys, op with
    | some b, .eql=>some (EqT P t, .lf false (.sc (.bool b)))
    | some b, .neq=>some (EqT P t, .lf false (.sc (.bool (!b))))
    | _, _=>none
   | _=>none
  | _, _, _=>none
def zvS (tab:Tab) (T:List (Nat×LV)) (t:Nat) (x:Operand) (lo hi mx:Option Operand):Option (Prop×LV) :=
 match bnd T lo, bnd T hi, bnd T mx, zkm tab t with
 | some l, some h, some m, some e=>match e.sh with
  | .str=>match sc? (ev T x), mx with
   | some (.string b), none=>some (0≤zkA l∧zkA l≤zku h b.size∧zku h b.size≤b.size, .lf false (.sc (.string (b.extract (zkA l).toNat (zku h b.size).toNat))))
   | _, _=>none
  | .slice el=>match zkm tab el with
   | some ee =>
    if h.map (·.2)=some 0∧m.map (·.2)=some 0∧lo.isNone=true then
     match ev T x with
     | .lf _ (.sl _)=>some (True, .nl)
     | .os ..=>some (True, .nl)
     | .nl=>some (True, .nl)
     | _=>none
    else match ev T x with
    | .lf tt (.sl rows)=>if mx.isNone=true then some ((0≤zkA l∧zkA l≤zku h rows.length∧zku h rows.length≤rows.length)∧(0 < zkA l→∀ r∈rows, r.length=ee.size),
      .lf tt (.sl ((rows.drop (zkA l).toNat).take ((zku h rows.length).toNat - (zkA l).toNat)))) else none
    | .os id es o0 len mc ex=>if ee.size=es∧(m.isSome=true→h.isSome=true) then some (0≤zkA l∧zkA l≤zku h len∧zku h len≤zku m (max len mc)∧zku m (max len mc)≤max len mc,
      .os id es (o0+(zkA l).toNat) ((zku h len).toNat - (zkA l).toNat) ((zku m (max len mc)).toNat - (zkA l).toNat) (ex || m.isSome)) else none
    | .nl=>if m.isSome=true→h.isSome=true then some (zkA l=0∧zku h 0=0∧zku m 0=0, .nl) else none
    | _=>none
   | none=>none
  | _=>none
 | _, _, _, _=>none
def zmm (tab:Tab) (T:List (Nat×LV)) (b:Builtin) (args:List Operand) (types:List Nat):Option (Prop×LV) :=
 match b, args, types with
 | .len, [x], [t]=>match zkm tab t, zoO (ev T x) with
  | some e, some n=>match e.sh, sc? (ev T x) with
   | .str, some (.string _)=>some (True, .lf false (.sc (.int .i64 n)))
   | .slice _, none=>some (True, .lf false (.sc (.int .i64 n)))
   | _, _=>none
  | _, _=>none
 | b, [x, y], _=>match sc? (ev T x), sc? (ev T y) with
  | some (.int k p), some (.int _ q)=>match mm b p q with
   | some n=>some (True, .lf false (.sc (.int k n)))
   | none=>none
  | _, _=>none
 | _, _, _=>none
def zmZ (P:Program) (tab:Tab) (T:List (Nat×LV)) (op:Op):Option (Prop×LV) :=
 match op with
 | .move x=>some (True, ev T x)
 | .assign x=>some (True, ev T x)
 | .pick c a b=>match zrB (ev T a) (ev T b) (ev T c) with
  | some lv=>some (True, lv)
  | none=>none
 | .binOp op t x y _=>zyB P tab op t (ev T x) (ev T y)
 | .unOp op _ x=>match zxk op (ev T x) with
  | some lv=>some (True, lv)
  | none=>none
 | .extract x j=>match ev T x with
  | .tu ls=>if j < ls.length then some (True, ls.getD j .un) else none
  | _=>none
 | .fieldAddr t x f=>match zkm tab t with
  | some e=>match e.sh with
   | .struct fs=>match fs[f]? with
    | some (ft, fo)=>match zkm tab ft, zoJ (ev T x) fo with
     | some et, some lv=>if et.size≠0 then some (True, lv) else none
     | _, _=>none
    | none=>none
   | _=>none
  | none=>none
 | .nilCheck x=>match zoJ (ev T x) 0 with
  | some _=>some (True, ev T x)
  | none=>none
 | .indexAddr t x y=>match zkm tab t, sc? (ev T y) with
  | some e, some (.int _ n)=>match e.sh with
   | .slice el=>match zkm tab el with
    | some ee=>match ev T x with
     | .lf tt (.sl rows)=>some (0≤n∧n < rows.length∧(rows.getD n.toNat []).length=ee.size, .ra tt (rows.getD n.toNat []))
     | .os id es lo len _ _=>if ee.size=es then some (0≤n∧n < len, .pe id es (lo+n.toNat) 0) else none
     | _=>none
    | none=>none
   | _=>none
  | _, _=>none
 | .index t x y=>match zkm tab t, sc? (ev T x), sc? (ev T y) with
  | some e, some (.string b), some (.int _ n)=>match e.sh with
   | .str=>some (0≤n∧n < b.size, .lf false (.sc (.int .u8 (bt b n))))
   | _=>none
  | _, _, _=>none
 | .field t x f=>match zkm tab t, ev T x with
  | some e, .ag ls=>match e.sh with
   | .struct fs=>match fs[f]? with
    | some (ft, fo)=>match zkm tab ft with
     | some et=>if et.sh.known=true∧fo+et.size≤ls.length∧(et.sh.agg=true∨0 < et.size) then some (True, znm et.sh.agg ((ls.drop fo).take et.size)) else none
     | none=>none
    | none=>none
   | _=>none
  | _, _=>none
 | .makeFunc fn first caps=>match fn with
  | .func f=>if first=#[] then some (True, .fn f (caps.toList.map (ev T))) else none
  | _=>none
 | .convert t u x=>match zkm tab t, zkm tab u, sc? (ev T x) with
  | some e, some f, some (.int k n)=>match e.sh, f.sh with
   | .int k', .int k2=>if k=k' then some (True, .lf false (.sc (.int k2 (k2.wrap n)))) else none
   | _, _=>none
  | _, _, _=>none
 | .slice t x lo hi mx=>zvS tab T t x lo hi mx
 | .build t parts=>match zkm tab t with
  | some e=>match e.sh with
   | .struct fs=>match zpB tab fs with
    | some ps=>match zlX T ps (e.zero.map zlg) parts.toList with
     | some ls=>some (True, .ag ls)
     | none=>none
    | none=>none
   | _=>none
  | none=>none
 | .call c=>match c.callee with
  | .builtin b=>zmm tab T b c.args.toList c.argTypes.toList
  | _=>none
 | _=>none
def zrR (x y:LV) (n:Nat):Nat:=match x, y with
 | .os id _ _ _ mc _, .os id' _ _ _ _ _=>if id=id' then max n mc else n
 | _, _=>n
def zuE (f:Nat→Option (List DSh)):List (Nat×Nat)→Option (List DSh)
 | []=>some []
 | (t, _) :: r=>match f t, zuE f r with
  | some a, some b=>some (a++b)
  | _, _=>none
def zlw (tab:Tab):Nat→Nat→Option (List DSh)
 | 0, _=>none
 | n+1, t=>match zkm tab t with
  | some e=>match e.sh with
   | .int _=>some [.sc]
   | .bool=>some [.sc]
   | .str=>some [.sc]
   | .slice el=>(zlw tab n el).map λ ss=>[.sl ss]
   | .struct fs=>zuE (zlw tab n) fs
   | _=>none
  | none=>none
def zpv (T:List (Nat×LV)):List (Nat×Operand)→Option (List LV)
 | [(0, x)]=>zlh (ev T x)
 | _=>none
theorem zxp {T:List (Nat×LV)} {l:List (Nat×Operand)} {ks:List LV} (h:zpv T l=some ks):∃ x, l=[(0, x)]∧zlh (ev T x)=some ks:=by
 unfold zpv at h
 split at h
 ·exact ⟨_, rfl, h⟩
 ·cases h
theorem zuF {T T':List (Nat×LV)} (l:List (Nat×Operand)) (h:∀ p∈l, ev T' p.2=ev T p.2):zpv T' l=zpv T l:=by
 unfold zpv
 split
 ·rw [h _ (List.mem_singleton.2 rfl)]
 ·rfl
def zsZ (ss:Option (List DSh)) (ee:TE):Option (List DSh×List Leaf):=match ss with
 | some ss=>if ss.all DSh.isSc=true then none else if ss.length=ee.size then (match zna [] ss (ee.zero.map zlg) with
  | some (zl, [], true)=>some (ss, zl)
  | _=>none) else none
 | none=>none
def zmG (ss:Option (List DSh)) (T:List (Nat×LV)) (es:Nat) (l:List (Nat×Operand)):Option (List DSh×List (List Leaf)):=match ss with
 | some ss=>if ss.all DSh.isSc=true then none else if ss.length=es then (match l with
  | []=>none
  | _=>(zlO T ss es l).map λ r=>(ss, r)) else none
 | none=>none
theorem zvT {ss0:Option (List DSh)} {T:List (Nat×LV)} {es:Nat} {l:List (Nat×Operand)} {ss:List DSh} {rows:List (List Leaf)} (h:zmG ss0 T es l=some (ss, rows)):ss.length=es∧zlO T ss es l=some rows:=by
 unfold zmG at h
 split at h
 ·split at h
  ·cases h
  ·split at h
   ·rename_i he
    split at h
    ·cases h
    ·obtain ⟨r, h1, h2⟩:=Option.map_eq_some_iff.1 h
     cases h2
     exact ⟨he, h1⟩
   ·cases h
 ·cases h
def zvU (id lo len:Nat):Option (Bool×Ob)→Option (Nat×List DSh×List Leaf×List LV)
 | some (_, .foc ss [r] p ks)=>if lo=0∧len=1∧p=0 then some (id, ss, r, ks) else none
 | _=>none
def zrS (H:zkO):LV→Option (Nat×List DSh×List Leaf×List LV)
 | .os id _ lo len _ _=>zvU id lo len (H id)
 | _=>none
def zmb (tab:Tab) (s:St) (x:LV) (q:List DSh×List Leaf×List LV) (ee:TE):Option Res :=
 if 0 < ee.bytes∧ee.zero.length=ee.size∧0 < ee.size∧q.1.length=ee.size then (match x with
  | .nl=>some ⟨ee.bytes≤140737488355328, .os s.nx ee.size 0 1 1 false, (s.nx, some (true, .foc q.1 [q.2.1] 0 q.2.2)) :: s.H, s.nx+1⟩
  | .os id es 0 len _ _=>match hp s.H id with
   | some (fr, .deep ss old)=>if ee.size=es∧q.2.2.all flat=true then some ⟨ss=q.1∧len=old.length∧(len+1) * ee.bytes≤140737488355328, .os s.nx es 0 (len+1) (len+1) false, (s.nx, some (fr, .foc ss (old++[q.2.1]) len q.2.2)) :: (id, none) :: s.H, s.nx+1⟩ else none
   | _=>none
  | _=>none) else none
def zs0 (id:Nat):Option (Bool×Ob)→Option Nat
 | some (_, .foc _ _ _ _)=>some id
 | _=>none
def zyC (H:zkO):LV→Option Nat
 | .os id _ _ _ _ _=>zs0 id (H id)
 | _=>none
def zrp (p:Prop):Option Res→Option Res
 | some r=>some ⟨p∧r.pre, r.v, r.H, r.nx⟩
 | none=>none
def zoT (H:HL) (nx id:Nat):St:=St.pack ⟨[], H, nx, 0⟩ id
def zmU (tab:Tab) (s:St) (args:List Operand) (types:List Nat):Option Res :=
 match args, types with
 | [x, y], [t, u]=>match zkm tab t, zkm tab u with
  | some e, some e2=>match e.sh, e2.sh with
   | .slice el, .slice _=>match zrS (hp s.H) (ev s.T y) with
    | some q=>match zkm tab el with
     | some ee=>match zyC (hp s.H) (ev s.T x) with
      | some id=>match zrS (hp (zoT s.H s.nx id).H) (ev s.T y) with
       | some q2=>zrp (zoR s.H id) (zmb tab (zoT s.H s.nx id) (ev s.T x) q2.2 ee)
       | none=>none
      | none=>zmb tab s (ev s.T x) q.2 ee
     | none=>none
    | none=>match zkm tab el, zlR (hp s.H) (ev s.T y) with
    | some ee, some (tx, rows) =>
     if 0 < ee.bytes∧ee.zero.length=ee.size then match ev s.T x with
      | .nl=>some ⟨(∀ r∈rows, r.length=ee.size)∧rows.length * ee.bytes≤140737488355328, .os s.nx ee.size 0 rows.length rows.length false, (s.nx, some (true, .arr tx ee.size rows)) :: s.H, s.nx+1⟩
      | .os id es lo len _ _=>match hp s.H id with
       | some (fr, .arr t1 es' old)=>if ee.size=es∧es'=es then
        some ⟨lo+len≤old.length∧(∀ r∈rows, r.length=es)∧(len+rows.length) * ee.bytes≤140737488355328, .os s.nx es 0 (len+rows.length) (zrR (ev s.T x) (ev s.T y) (len+rows.length)) false,
         (s.nx, some (fr, .arr (t1 || tx) es ((old.drop lo).take len++rows))) :: (id, none) :: s.H, s.nx+1⟩ else none
       | _=>none
      | _=>none
     else none
    | _, _=>none
   | _, _=>none
  | _, _=>none
 | _, _=>none
def zoU (tab:Tab) (s:St) (args:List Operand) (types:List Nat):Option Res :=
 match args, types with
 | [x], [t]=>match zkm tab t with
  | some e=>match e.sh with
   | .slice el=>match zkm tab el, ev s.T x with
    | some ee, .os id es lo _ _ _=>match hp s.H id, zlG (ee.zero.map zlg) with
     | some (_, .arr _ es' old), some (false, _)=>if ee.zero.length=ee.size∧ee.size=es∧es'=es then some ⟨old.length≤lo, .un, s.H, s.nx⟩ else none
     | _, _=>none
    | _, _=>none
   | _=>none
  | none=>none
 | _, _=>none
def opE (P:Program) (tab:Tab) (s:St) (op:Op):Option Res :=
 match op with
 | .alloc t=>match zkm tab t with
  | some e=>some ⟨True, .pb s.nx 0, (s.nx, some (true, .box (e.zero.map zlg))) :: s.H, s.nx+1⟩
  | none=>none
 | .box _ x=>match zlh (ev s.T x) with
  | some ls=>some ⟨True, .pb s.nx 0, (s.nx, some (true, .box ls)) :: s.H, s.nx+1⟩
  | none=>none
 | .load t x=>match zkm tab t with
  | none=>none
  | some e=>if e.sh.known=true∧(e.sh.agg=true∨0 < e.size) then (match ev s.T x with
   | .pb id off=>match hp s.H id with
    | some (_, .box ls)=>if off+e.size≤ls.length then some ⟨True, znm e.sh.agg ((ls.drop off).take e.size), s.H, s.nx⟩ else none
    | _=>none
   | .pe id es i off=>match hp s.H id with
    | some (_, .arr tt es' rows)=>if es'=es then some ⟨i < rows.length∧off+e.size≤(rows.getD i []).length, znm e.sh.agg ((((rows.getD i []).drop off).take e.size).map (mk tt)), s.H, s.nx⟩ else none
    | some (_, .deep ss rows)=>if ss.length=es∧((ss.drop off).take e.size).all DSh.isSc=true then some ⟨i < rows.length∧off+e.size≤(rows.getD i []).length, znm e.sh.agg ((((rows.getD i []).drop off).take e.size).map (mk false)), s.H, s.nx⟩ else none
    | some (_, .foc ss _ p ks)=>if ss.length=es∧off+e.size≤ks.length then some ⟨i=p, znm e.sh.agg ((ks.drop off).take e.size), s.H, s.nx⟩ else none
    | _=>none
   | .ra tt ls=>some ⟨e.size≤ls.length, znm e.sh.agg ((ls.take e.size).map (mk tt)), s.H, s.nx⟩
   | _=>none) else none
 | .store t x y=>match zkm tab t, zlh (ev s.T y) with
  | some e, some ks=>if ks.length=e.size then (match ev s.T x with
   | .pb id off=>match hp s.H id with
    | some (fr, .box ls)=>if ks.all flat=true∧off+e.size≤ls.length then some ⟨True, .un, (id, some (fr, .box (put ls off ks))) :: s.H, s.nx⟩ else none
    | _=>none
   | .pe id es i off=>match hp s.H id with
    | some (fr, .arr tt es' rows)=>(match zlG ks with
     | some (tu, ls)=>if es'=es then some ⟨i < rows.length∧off+e.size≤(rows.getD i []).length, .un, (id, some (fr, .arr (tt || tu) es (rows.set i (put (rows.getD i []) off ls)))) :: s.H, s.nx⟩ else none
     | none=>none)
    | some (fr, .deep ss rows)=>if ss.length=es∧off=0∧e.size=ss.length∧ks.all flat=true then some ⟨i < rows.length, .un, (id, some (fr, .foc ss rows i ks)) :: s.H, s.nx⟩ else none
    | some (fr, .foc ss rows p ks0)=>if ss.length=es∧ks.all flat=true∧off+e.size≤ks0.length then some ⟨i=p, .un, (id, some (fr, .foc ss rows p (put ks0 off ks))) :: s.H, s.nx⟩ else none
    | _=>none
   | _=>none) else none
  | _, _=>none
 | .makeSlice t x y=>match zkm tab t, sc? (ev s.T x), sc? (ev s.T y) with
  | some e, some (.int _ n), some (.int _ n')=>match e.sh with
   | .slice el=>match zkm tab el with
    | some ee=>match zlG (ee.zero.map zlg) with
     | some (false, zl)=>if ee.zero.length=ee.size then (match zsZ (zlw tab 9 el) ee with
      | some (ss, zl')=>some ⟨n'=n∧0≤n∧n * ee.bytes≤281474976710656∧n≤9223372036854775807, .os s.nx ee.size 0 n.toNat n.toNat true, (s.nx, some (true, .deep ss (List.replicate n.toNat zl'))) :: s.H, s.nx+1⟩
      | none=>some ⟨n'=n∧0≤n∧n * ee.bytes≤281474976710656∧n≤9223372036854775807, .os s.nx ee.size 0 n.toNat n.toNat true, (s.nx, some (true, .arr false ee.size (List.replicate n.toNat zl))) :: s.H, s.nx+1⟩) else none
     | _=>none
    | none=>none
   | _=>none
  | _, _, _=>none
 | .buildSlice t len parts=>match zkm tab t with
  | some e=>match e.sh with
   | .slice el=>match zkm tab el with
    | some ee=>match zmG (zlw tab 9 el) s.T ee.size parts.toList with
     | some (ss, rows)=>if parts.toList.map (·.1)=List.range len∧len * ee.size≤16777216∧len≤16777216 then some ⟨True, .os s.nx ee.size 0 len len true, (s.nx, some (true, .deep ss rows)) :: s.H, s.nx+1⟩ else none
     | none=>match zlN s.T ee.size parts.toList with
     | some (tt, rows)=>if parts.toList.map (·.1)=List.range len∧len * ee.size≤16777216∧len≤16777216 then some ⟨True, .os s.nx ee.size 0 len len true, (s.nx, some (true, .arr tt ee.size rows)) :: s.H, s.nx+1⟩ else none
     | none=>match zpv s.T parts.toList, zlw tab 9 el with
      | some ks, some ss=>if len=1∧ks.length=ee.size∧ss.length=ee.size∧ee.size≤16777216 then some ⟨True, .os s.nx ee.size 0 1 1 true, (s.nx, some (true, .foc ss [List.replicate ss.length (.sl [])] 0 ks)) :: s.H, s.nx+1⟩ else none
      | _, _=>none
    | none=>none
   | _=>none
  | none=>none
 | .convert t u x=>match zkm tab t with
  | some e=>match e.sh with
   | .slice el=>match zkm tab el, zkm tab u, zlR (hp s.H) (ev s.T x) with
    | some ee, some f, some (_, rows)=>match ee.sh, f.sh, znp rows with
     | .int .u8, .str, some ns=>some ⟨True, .lf false (.sc (.string (zvK ns))), s.H, s.nx⟩
     | _, _, _=>none
    | _, _, _=>none
   | _=>(zmZ P tab s.T (.convert t u x)).map λ p=>⟨p.1, p.2, s.H, s.nx⟩
  | none=>none
 | .call c=>match c.callee with
  | .builtin .append=>zmU tab s c.args.toList c.argTypes.toList
  | .builtin .clear=>zoU tab s c.args.toList c.argTypes.toList
  | _=>(zmZ P tab s.T (.call c)).map λ p=>⟨p.1, p.2, s.H, s.nx⟩
 | op=>(zmZ P tab s.T op).map λ p=>⟨p.1, p.2, s.H, s.nx⟩
def zvV (tab:Tab) (T:List (Nat×LV)):Op→Bool
 | .binOp op t x y _=>(match op with | .eql=>true | .neq=>true | _=>false) && (match y with | .const (.slice none 0 0)=>true | _=>false) && (match zkm tab t with | some e=>(match e.sh with | .slice _=>true | _=>false) | none=>false) &&
   (match ev T x with | .nl=>true | .os ..=>true | .lf _ (.sl _)=>true | _=>false)
 | _=>false
def znY (tab:Tab) (T:List (Nat×LV)):Op→Option (Bool×LV)
 | .binOp op t x y t'=>if zvV tab T (.binOp op t x y t')=true then some ((match op with | .eql=>true | _=>false), ev T x) else none
 | _=>none
def zwD:LV→Prop
 | .lf _ (.sl rows)=>rows=[]
 | .os _ _ _ len _ _=>len=0
 | _=>True
def zxq (isNil:Bool) (lv:LV):Prop:=isNil=true→zwD lv
def zm0:Op→Option (Operand×Array Operand)
 | .call c=>match c.callee with
  | .value f=>some (f, c.args)
  | _=>none
 | _=>none
section
variable {P:Program} {s:St}
theorem zxr {tab:Tab} (htab:zlK P tab) {op:BinOp} {t t':Nat} {x y:Operand} {p:Prop×LV} (h:zyB P tab op t (ev s.T x) (ev s.T y)=some p):Does P (.binOp op t x y t') s ⟨p.1, p.2, s.H, s.nx⟩:=by
 have tk:∀ {t e}, zkm tab t=some e→OkT P t e:=λ h=>htab _ (zlL h)
 unfold zyB at h
 split at h
 ·rename_i p q hp hq
  split at h
  ·rename_i e he
   split at h
   ·rename_i hsh;cases h
    have:=zpS (P:=P) (s:=s) (t':=t') (op:=.eql) (tk he) hsh (.inl rfl) hp hq
    simpa using this
   ·rename_i hsh;cases h
    have:=zpS (P:=P) (s:=s) (t':=t') (op:=.neq) (tk he) hsh (.inr rfl) hp hq
    simpa using this
   ·cases h
  ·cases h
 ·rename_i p q hne hp hq
  split at h
  ·rename_i v hv;cases h;exact zyv hp hq hv
  ·cases h
 ·split at h
  ·rename_i xs ys e hx hy he
   split at h
   ·rename_i fs hsh
    split at h
    ·rename_i b hb;cases h
     have:=zsV (s:=s) (t':=t') (op:=.eql) htab (tk he) hsh (.inl rfl) hx hy hb
     simpa using this
    ·rename_i b hb;cases h
     have:=zsV (s:=s) (t':=t') (op:=.neq) htab (tk he) hsh (.inr rfl) hx hy hb
     simpa using this
    ·cases h
   ·cases h
  ·cases h
theorem Does.weak {op:Op} {r:Res} {p:Prop} (h:Does P op s r) (hp:p→r.pre):Does P op s ⟨p, r.v, r.H, r.nx⟩:=λ w0 W0 c a w hr hq=>h w0 W0 c a w hr (hp hq)
theorem zxs {tab:Tab} (htab:zlK P tab) {t:Nat} {x:Operand} {lo hi mx:Option Operand} {p:Prop×LV} (h:zvS tab s.T t x lo hi mx=some p):Does P (.slice t x lo hi mx) s ⟨p.1, p.2, s.H, s.nx⟩:=by
 have tk:∀ {t e}, zkm tab t=some e→OkT P t e:=λ h=>htab _ (zlL h)
 unfold zvS at h
 split at h
 ·rename_i l hh m e hl hhi hm he
  split at h
  ·rename_i hsh
   split at h
   ·rename_i b hx
    cases h
    exact ztH (tk he) hsh hx hl hhi
   ·cases h
  ·rename_i el hsh
   split at h
   ·rename_i ee hee
    split at h
    ·rename_i hc
     obtain ⟨c1, c2, c3⟩:=hc
     have h0:zkA l=0:=by
      cases lo with
      | none=>simp [bnd] at hl;subst hl;rfl
      | some _=>simp at c3
     have h1:∃ k, hh=some (k, 0):=by
      cases hh with
      | none=>simp at c1
      | some q=>obtain ⟨k, n⟩:=q;simp at c1;subst c1;exact ⟨k, rfl⟩
     have h2:∃ k, m=some (k, 0):=by
      cases m with
      | none=>simp at c2
      | some q=>obtain ⟨k, n⟩:=q;simp at c2;subst c2;exact ⟨k, rfl⟩
     split at h
     ·rename_i hx;cases h
      exact znW (tk he) hsh (tk hee) (by rw [hx];rfl) hl hhi hm h0 h1 h2 (λ b=>by rw [hx];simp [sc?])
     ·rename_i hx;cases h
      exact znW (tk he) hsh (tk hee) (by rw [hx];rfl) hl hhi hm h0 h1 h2 (λ b=>by rw [hx];simp [sc?])
     ·rename_i hx;cases h
      exact znW (tk he) hsh (tk hee) (by rw [hx];rfl) hl hhi hm h0 h1 h2 (λ b=>by rw [hx];simp [sc?])
     ·cases h
    ·split at h
     ·rename_i tt rows hx
      split at h
      ·rename_i hmx
       cases h
       cases mx with
       | some _=>simp at hmx
       | none=>exact zuu (tk he) hsh (tk hee) hx hl hhi
      ·cases h
     ·rename_i hx
      split at h
      ·rename_i hc;cases h;exact zuv (tk he) hsh (tk hee) hc.1 hx hl hhi hm hc.2
      ·cases h
     ·rename_i hx
      split at h
      ·rename_i hc;cases h;exact zuw (tk he) hsh (tk hee) hx hl hhi hm hc
      ·cases h
     ·cases h
   ·cases h
  ·cases h
 ·cases h
theorem zsL {tab:Tab} (htab:zlK P tab) {b:Builtin} {c:Call} (hc:c.callee=.builtin b) {p:Prop×LV} (h:zmm tab s.T b c.args.toList c.argTypes.toList=some p):Does P (.call c) s ⟨p.1, p.2, s.H, s.nx⟩:=by
 have tk:∀ {t e}, zkm tab t=some e→OkT P t e:=λ h=>htab _ (zlL h)
 unfold zmm at h
 split at h
 ·rename_i x t ha ht
  have ha':c.args=#[x]:=by rw [← qa (xs:=c.args), ha]
  have ht':c.argTypes=#[t]:=by rw [← qa (xs:=c.argTypes), ht]
  split at h
  ·rename_i e n he hn
   split at h
   ·rename_i b hsh hb
    cases h
    exact (zut (tk he) (.inl hsh) hc ha' ht' hn).weak λ _=>⟨λ _=>⟨b, hb⟩, λ _=>hsh⟩
   ·rename_i el hsh hb
    cases h
    exact (zut (tk he) (.inr ⟨el, hsh⟩) hc ha' ht' hn).weak λ _=>Iff.intro (λ h=>by rw [hsh] at h;cases h) (λ h=>by obtain ⟨b, hb'⟩:=h;rw [hb] at hb';cases hb')
   ·cases h
  ·cases h
 ·rename_i x y ha
  have ha':c.args=#[x, y]:=by rw [← qa (xs:=c.args), ha]
  split at h
  ·rename_i k p q hx hy
   rename_i k2 _
   split at h
   ·rename_i n hn
    cases h
    exact zAp hc ha' (by assumption) (by assumption) hn
   ·cases h
  ·cases h
 ·cases h
theorem zvW {tab:Tab} (htab:zlK P tab) {op:Op} {p:Prop×LV} (h:zmZ P tab s.T op=some p):Does P op s ⟨p.1, p.2, s.H, s.nx⟩:=by
 have tk:∀ {t e}, zkm tab t=some e→OkT P t e:=λ h=>htab _ (zlL h)
 unfold zmZ at h
 split at h
 ·cases h;exact zxi _
 ·cases h;exact zum _
 ·split at h
  ·rename_i hx;cases h;exact zxj hx
  ·cases h
 ·exact zxr htab h
 ·split at h
  ·rename_i hx;cases h;exact zAh hx
  ·cases h
 ·split at h
  ·rename_i hx
   split at h
   ·rename_i hj;cases h;exact ztz hx hj
   ·cases h
  ·cases h
 ·split at h
  ·rename_i e hx
   split at h
   ·rename_i fs hsh
    split at h
    ·rename_i ft fo hf
     split at h
     ·rename_i et lv hx2 hm
      split at h
      ·rename_i h0;cases h;exact zrD (tk hx) hsh hf (tk hx2) h0 hm
      ·cases h
     ·cases h
    ·cases h
   ·cases h
  ·cases h
 ·split at h
  ·rename_i hx;cases h;exact zsC hx
  ·cases h
 ·split at h
  ·rename_i e k n hx hy
   split at h
   ·rename_i el hsh
    split at h
    ·rename_i ee hx2
     split at h
     ·rename_i tt rows hx3
      cases h
      refine (zpP (row:=rows.getD n.toNat []) (tk hx) hsh (tk hx2) hx3 hy).weak λ ⟨h1, h2, h3⟩=>⟨h1, ?_, h3⟩
      have:n.toNat < rows.length:=by omega
      simp [this]
     ·split at h
      ·rename_i hx3 h1;cases h;exact zpQ (tk hx) hsh (tk hx2) h1 hx3 hy
      ·cases h
     ·cases h
    ·cases h
   ·cases h
  ·cases h
 ·split at h
  ·rename_i e b k n hx hb hn
   split at h
   ·rename_i hsh;cases h;exact zvL (tk hx) hsh hb hn
   ·cases h
  ·cases h
 ·split at h
  ·rename_i e ls hx hl
   split at h
   ·rename_i fs hsh
    split at h
    ·rename_i ft fo hf
     split at h
     ·rename_i et he
      split at h
      ·rename_i hc
       cases h
       exact zvM (tk hx) hsh hf (tk he) hc.1 hl hc.2.1 λ hf=>hc.2.2.elim (λ h=>by rw [hf] at h;cases h) id
      ·cases h
     ·cases h
    ·cases h
   ·cases h
  ·cases h
 ·split at h
  ·split at h
   ·rename_i hf;cases h;subst hf;exact zsF
   ·cases h
  ·cases h
 ·split at h
  ·rename_i e f k n he hf hx
   split at h
   ·rename_i k' k2 h1 h2
    split at h
    ·rename_i hk;subst hk;cases h;exact zqr (tk he) h1 (tk hf) h2 hx
    ·cases h
   ·cases h
  ·cases h
 ·exact zxs htab h
 ·split at h
  ·rename_i e he
   split at h
   ·rename_i fs hsh
    split at h
    ·rename_i ps hps
     split at h
     ·rename_i ls hls;cases h;exact zvP htab (tk he) hsh hps hls
     ·cases h
    ·cases h
   ·cases h
  ·cases h
 ·split at h
  ·rename_i b hc;exact zsL htab hc h
  ·cases h
 ·cases h
theorem Does.pack {op:Op} {id:Nat} {r:Res} (h:Does P op (s.pack id) r):Does P op s ⟨zoR s.H id∧r.pre, r.v, r.H, r.nx⟩:=by
 intro w0 W0 c a w hr hp
 obtain ⟨c1, hle, hr1⟩:=zuD hr id hp.1
 obtain ⟨n, w', c', v, h1, h2, h3, h4, h5, h6, h7⟩:=h w0 W0 c1 a w hr1 hp.2
 exact ⟨n, w', c', v, h1, h2, hle.trans h3, h4, h5, λ b k hb=>h6 b k (hb.imp (hle.G b k) λ h=>by rw [hle.F];exact h), h7⟩
theorem zvX (s:St) (id:Nat):(s.pack id).H=(zoT s.H s.nx id).H∧(s.pack id).nx=(zoT s.H s.nx id).nx∧(s.pack id).T=s.T:=by
 unfold zoT St.pack
 dsimp only
 split
 ·split
  ·split
   ·exact ⟨rfl, rfl, rfl⟩
   ·exact ⟨rfl, rfl, rfl⟩
  ·exact ⟨rfl, rfl, rfl⟩
 ·exact ⟨rfl, rfl, rfl⟩
theorem zpY {tab:Tab} {c:Call} {x y:Operand} {t u el el2:Nat} {e e2 ee:TE} {q:Nat×List DSh×List Leaf×List LV} (hc:c.callee=.builtin .append) (ha':c.args=#[x, y]) (ht':c.argTypes=#[t, u]) (he:OkT P t e) (hsh:e.sh=.slice el) (he2:OkT P u e2) (hsh2:e2.sh=.slice el2) (hee:OkT P el ee)
  (hq:zrS (hp s.H) (ev s.T y)=some q) {r:Res} (h:zmb tab s (ev s.T x) q.2 ee=some r):Does P (.call c) s r:=by
 obtain ⟨idy, ss, r0, ks⟩:=q
 have hfy:∃ esy mcy exy fry, ev s.T y=.os idy esy 0 1 mcy exy∧hp s.H idy=some (fry, .foc ss [r0] 0 ks):=by
  unfold zrS at hq
  split at hq
  ·rename_i id es lo len mc ex hy
   unfold zvU at hq
   split at hq
   ·rename_i fr ss' r' p' ks' ho
    split at hq
    ·rename_i hc3
     obtain ⟨rfl, rfl, rfl⟩:=hc3
     cases hq
     exact ⟨_, _, _, _, hy, ho⟩
    ·cases hq
   ·cases hq
  ·cases hq
 obtain ⟨esy, mcy, exy, fry, hy, hoy⟩:=hfy
 unfold zmb at h
 split at h
 ·rename_i hb
  obtain ⟨hb1, hb2, hb3, hb4⟩:=hb
  split at h
  ·rename_i hx;cases h
   exact zpC hc ha' ht' he hsh he2 hsh2 hee hb1 hb2 hb3 hb4 hx hy hoy
  ·rename_i id es len mc ex hx
   split at h
   ·rename_i fr ss2 old ho
    split at h
    ·rename_i hes
     cases h
     intro w0 W0 cx a w hr hp
     obtain ⟨h1, h2, h3⟩:=hp
     simp only at h1
     subst h1
     exact zpD hc ha' ht' he hsh he2 hsh2 hee hb1 hb2 hb3 hb4 hes.1 hes.2 hx ho h2 hy hoy w0 W0 cx a w hr h3
    ·cases h
   ·cases h
  ·cases h
 ·cases h
theorem ztN {tab:Tab} (htab:zlK P tab) {c:Call} (hc:c.callee=.builtin .append) {r:Res} (h:zmU tab s c.args.toList c.argTypes.toList=some r):Does P (.call c) s r:=by
 have tk:∀ {t e}, zkm tab t=some e→OkT P t e:=λ h=>htab _ (zlL h)
 unfold zmU at h
 split at h
 ·rename_i x y t u ha ht
  have ha':c.args=#[x, y]:=by rw [← qa (xs:=c.args), ha]
  have ht':c.argTypes=#[t, u]:=by rw [← qa (xs:=c.argTypes), ht]
  split at h
  ·rename_i e e2 he he2
   split at h
   ·rename_i el el2 hsh hsh2
    split at h
    ·rename_i q hq
     split at h
     ·rename_i ee hee
      split at h
      ·rename_i id hi
       split at h
       ·rename_i q2 hq2
        obtain ⟨k1, k2, k3⟩:=zvX s id
        have hq3:zrS (hp (s.pack id).H) (ev (s.pack id).T y)=some q2:=by rw [k1, k3];exact hq2
        cases hr:zmb tab (zoT s.H s.nx id) (ev s.T x) q2.2 ee with
        | none=>rw [hr] at h;cases h
        | some r1 =>
         rw [hr] at h
         cases h
         have hr':zmb tab (s.pack id) (ev (s.pack id).T x) q2.2 ee=some r1:=by
          rw [← hr, k3]
          unfold zmb
          rw [k1, k2]
         exact (zpY hc ha' ht' (tk he) hsh (tk he2) hsh2 (tk hee) hq3 hr').pack
       ·cases h
      ·exact zpY hc ha' ht' (tk he) hsh (tk he2) hsh2 (tk hee) hq h
     ·cases h
    split at h
    ·rename_i ee tx rows hee hrows
     split at h
     ·rename_i hb
      split at h
      ·rename_i hx;cases h
       exact zrH hc ha' ht' (tk he) hsh (tk he2) hsh2 (tk hee) hb.1 hb.2 hx hrows
      ·rename_i id es lo len mc ex hx
       split at h
       ·rename_i fr t1 es' old ho
        split at h
        ·rename_i hes
         obtain ⟨h1, h2⟩:=hes
         subst h2
         cases h
         intro w0 W0 cx a w hr hp
         refine zrJ (room:=zrR (ev s.T x) (ev s.T y) (len+rows.length)) hc ha' ht' (tk he) hsh (tk he2) hsh2 (tk hee) hb.1 hb.2 h1 hx ho hp.1 hrows ?_ w0 W0 cx a w hr hp.2
         rw [hx]
         cases ev s.T y with
         | os id' es' lo' len' mc' ex' =>
          show (if id=id' then max (len+rows.length) mc else len+rows.length)≤_
          split
          ·exact Nat.le_refl _
          ·exact qb _ _
         | _=>exact qb _ _
        ·cases h
       ·cases h
      ·cases h
     ·cases h
    ·cases h
   ·cases h
  ·cases h
 ·cases h
theorem zuG {tab:Tab} (htab:zlK P tab) {c:Call} (hc:c.callee=.builtin .clear) {r:Res} (h:zoU tab s c.args.toList c.argTypes.toList=some r):Does P (.call c) s r:=by
 have tk:∀ {t e}, zkm tab t=some e→OkT P t e:=λ h=>htab _ (zlL h)
 unfold zoU at h
 split at h
 ·rename_i x t ha ht
  have ha':c.args=#[x]:=by rw [← qa (xs:=c.args), ha]
  have ht':c.argTypes=#[t]:=by rw [← qa (xs:=c.argTypes), ht]
  split at h
  ·rename_i e he
   split at h
   ·rename_i el hsh
    split at h
    ·rename_i ee id es lo len mc ex hee hx
     split at h
     ·rename_i fr t1 es' old zl ho hz
      split at h
      ·rename_i hb
       obtain ⟨h1, h2, h3⟩:=hb
       subst h3
       cases h
       exact zvO hc ha' ht' (tk he) hsh (tk hee) h1 hz h2 hx ho
      ·cases h
     ·cases h
    ·cases h
   ·cases h
  ·cases h
 ·cases h
theorem zyD {tab:Tab} (htab:zlK P tab) {op:Op} {r:Res} (h:opE P tab s op=some r):Does P op s r:=by
 have tk:∀ {t e}, zkm tab t=some e→OkT P t e:=λ h=>htab _ (zlL h)
 have pur:(zmZ P tab s.T op).map (λ p=>(⟨p.1, p.2, s.H, s.nx⟩:Res))=some r→Does P op s r:=λ h=>by
  cases hp:zmZ P tab s.T op with
  | none=>rw [hp] at h;cases h
  | some p=>rw [hp] at h;cases h;exact zvW htab hp
 unfold opE at h
 split at h
 ·split at h
  ·rename_i hx;cases h;exact zvD (tk hx)
  ·cases h
 ·split at h
  ·rename_i hx;cases h;exact zyw hx
  ·cases h
 ·split at h
  ·cases h
  ·rename_i e hx
   split at h
   ·rename_i h1
    have h0:e.sh.agg=false→0 < e.size:=λ hf=>h1.2.elim (λ h=>by rw [hf] at h;cases h) id
    split at h
    ·rename_i id off hx2
     split at h
     ·rename_i fr ls hob
      split at h
      ·rename_i h2;cases h;exact ztA (tk hx) h1.1 hx2 hob h2 h0
      ·cases h
     ·cases h
    ·rename_i id es i off hx2
     split at h
     ·rename_i fr tt es' rows hob
      split at h
      ·rename_i hes
       subst hes
       cases h
       refine (ztD (row:=rows.getD i []) (tk hx) h1.1 hx2 hob h0).weak λ hp=>⟨?_, hp.2⟩
       have:=hp.1
       simp [this]
      ·cases h
     ·rename_i fr ss rows hob
      split at h
      ·rename_i hes
       cases h
       refine (zrN (row:=rows.getD i []) (tk hx) h1.1 hx2 hob hes.1 hes.2 h0).weak λ hp=>⟨?_, hp.2⟩
       have:=hp.1
       simp [this]
      ·cases h
     ·rename_i fr ss rows p ks hob
      split at h
      ·rename_i hes;cases h;exact zsJ (tk hx) h1.1 hx2 hob hes.1 hes.2 h0
      ·cases h
     ·cases h
    ·rename_i tt ls hx2
     cases h
     intro w0 W0 cx a w hr hp
     exact ztB (tk hx) h1.1 hx2 hp h0 w0 W0 cx a w hr trivial
    ·cases h
   ·cases h
 ·split at h
  ·rename_i e ks hx hks
   split at h
   ·rename_i h1
    split at h
    ·rename_i id off hx2
     split at h
     ·rename_i fr ls hob
      split at h
      ·rename_i h2;cases h;exact zsB (tk hx) hx2 hob hks h2.1 h1 h2.2
      ·cases h
     ·cases h
    ·rename_i id es i off hx2
     split at h
     ·rename_i fr tt es' rows hob
      split at h
      ·rename_i tu ls hls
       split at h
       ·rename_i hes
        subst hes
        cases h
        refine (zsD (row:=rows.getD i []) (tk hx) hx2 hob hks hls h1).weak λ hp=>⟨?_, hp.2⟩
        have:=hp.1
        simp [this]
       ·cases h
      ·cases h
     ·rename_i fr ss rows hob
      split at h
      ·rename_i hes
       obtain ⟨hes, rfl, hsz, hfl⟩:=hes
       cases h
       have hput:put ks 0 ks=ks:=by simp [put]
       have:=zoS (ks0:=ks) (tk hx) hx2 hob (.inl ⟨rfl, rfl, hsz, rfl⟩) hes hks hfl h1 (by omega)
       rw [hput] at this
       exact this.weak λ hp=>⟨λ _=>hp, λ p hp=>by cases hp⟩
      ·cases h
     ·rename_i fr ss rows p ks0 hob
      split at h
      ·rename_i hes
       cases h
       intro w0 W0 cx a w hr hp
       have hp:i=p:=hp
       have:=zoS (ks0:=ks0) (tk hx) hx2 hob (.inr ⟨p, rfl⟩) hes.1 hks hes.2.1 h1 hes.2.2 w0 W0 cx a w hr ⟨λ h=>(by cases h), λ p' h=>(by cases h;exact hp)⟩
       rw [hp] at this
       exact this
      ·cases h
     ·cases h
    ·cases h
   ·cases h
  ·cases h
 ·split at h
  ·rename_i e k1 n k2 n' he hx hy
   split at h
   ·rename_i el hsh
    split at h
    ·rename_i ee hee
     split at h
     ·rename_i zl hz
      split at h
      ·rename_i hzs
       split at h
       ·rename_i ss zl' hdz
        cases h
        intro w0 W0 cx a w hr hp
        obtain ⟨rfl, hp⟩:=hp
        have hdz2:ss.length=ee.size∧zna [] ss (ee.zero.map zlg)=some (zl', [], true):=by
         unfold zsZ at hdz
         split at hdz
         ·split at hdz
          ·cases hdz
          ·split at hdz
           ·split at hdz
            ·rename_i h3 _ _ h4;cases hdz;exact ⟨h3, h4⟩
            ·cases hdz
           ·cases hdz
         ·cases hdz
        exact zrO (tk he) hsh (tk hee) hzs hdz2.1 hdz2.2 hx hy w0 W0 cx a w hr hp
       ·cases h
        intro w0 W0 cx a w hr hp
        obtain ⟨rfl, hp⟩:=hp
        exact zxm (tk he) hsh (tk hee) hzs hz hx hy w0 W0 cx a w hr hp
      ·cases h
     ·cases h
    ·cases h
   ·cases h
  ·cases h
 ·split at h
  ·rename_i e he
   split at h
   ·rename_i el hsh
    split at h
    ·rename_i ee hee
     split at h
     ·rename_i ss rows hb
      obtain ⟨b1, b2⟩:=zvT hb
      split at h
      ·rename_i hc;cases h;exact zrf (tk he) hsh (tk hee) b1 b2 hc.1 hc.2
      ·cases h
     split at h
     ·rename_i tt rows hp
      split at h
      ·rename_i hc;cases h;exact zre (tk he) hsh (tk hee) hp hc.1 hc.2
      ·cases h
     ·split at h
      ·rename_i ks ss hpx hds
       obtain ⟨x, hp1, hks⟩:=zxp hpx
       split at h
       ·rename_i hc
        obtain ⟨rfl, h1, h2, h3⟩:=hc
        cases h
        exact zsK (tk he) hsh (tk hee) hp1 hks h1 h2 (by simp) h3
       ·cases h
      ·cases h
    ·cases h
   ·cases h
  ·cases h
 ·split at h
  ·rename_i e he
   split at h
   ·rename_i el hsh
    split at h
    ·rename_i ee f tt rows hee hf hx
     split at h
     ·rename_i ns h1 h2 hns;cases h
      exact zsH (tk he) hsh (tk hee) h1 (tk hf) h2 hx hns
     ·cases h
    ·cases h
   ·exact pur h
  ·cases h
 ·split at h
  ·rename_i hc;exact ztN htab hc h
  ·rename_i hc;exact zuG htab hc h
  ·exact pur h
 ·exact pur h
end
def zyE (lv:LV) (K:Bool→Prop):Prop:=match sc? lv with
 | some (.bool b)=>K b
 | _=>False
theorem zwE {lv:LV} {K:Bool→Prop} (h:zyE lv K):∃ b, sc? lv=some (.bool b)∧K b:=by
 unfold zyE at h
 split at h
 ·exact ⟨_, by assumption, h⟩
 ·exact h.elim
def plain (x:Option Res) (n:Option (Bool×LV)) (s:St) (K:LV→HL→Nat→Prop):Prop:=match x with
 | some r=>r.pre∧K r.v r.H r.nx
 | none=>∃ (e:Bool) (lv:LV), n=some (e, lv)∧∀ b:Bool, zxq (b == e) lv→K (.lf false (.sc (.bool b))) s.H s.nx
def zs2 (P:Program) (s:St) (f:LV) (args:List LV) (K:LV→HL→Nat→Prop):Prop:=match f with
 | .fn g caps=>Ent P g∧zyx P s g (args++caps) K
 | _=>False
def opW (P:Program) (tab:Tab) (s:St) (op:Op) (K:LV→HL→Nat→Prop):Prop :=
 match zm0 op with
 | some (f, args)=>zs2 P s (ev s.T f) (args.toList.map (ev s.T)) K
 | none=>plain (opE P tab s op) (znY tab s.T op) s K
def St.put (s:St) (dst:Option Nat) (lv:LV) (H:HL) (nx:Nat):St :=
 ⟨match dst with | some d=>(d, lv) :: s.T | none=>s.T, H, nx, s.nt⟩
def zmf (s:St):Option Nat→Bool
 | some d=>decide (d < s.nt)
 | none=>true
def zpw (P:Program) (tab:Tab) (s:St) (o:Oper) (K:St→Prop):Prop :=
 zmf s o.dst=true∧opW P tab s o.op λ lv H nx=>K (s.put o.dst lv H nx)
theorem ztO {w0:World} {W0:Fr} {c c':Ctx} {s:St} {a:Act} {w w':World} (hr:Rel w0 W0 c s a w) (hle:c.Le c') {H:HL} {nx:Nat} (hnx:c'.nx=nx) (hsit:Sit w0 W0 c' (hp H) w') (hsame:Same c w w')
  {dst:Option Nat} (hd:zmf s dst=true) {lv:LV} {v:Value} (hv:Cv w' c' lv v):Rel w0 W0 c' (s.put dst lv H nx) (a.put dst v) w':=by
 refine ⟨hsit, hnx, λ i=>?_, ?_, ?_⟩
 ·cases dst with
  | none=>exact (hr.tmp i).mono hle hsame
  | some d =>
   have hd':d < a.tmps.size:=by rw [hr.sz];simpa [zmf] using hd
   show Cv w' c' (tv ((d, lv) :: s.T) i) ((a.tmps.setIfInBounds d v).getD i undef)
   unfold tv
   simp only [zkm]
   by_cases e:i=d
   ·subst e
    rw [if_pos rfl]
    simpa [hd'] using hv
   ·rw [if_neg e]
    have:=(hr.tmp i).mono hle hsame
    unfold tv at this
    have he:(a.tmps.setIfInBounds d v).getD i undef=a.tmps.getD i undef:=by
     simp only [Array.getD_eq_getD_getElem?, Array.getElem?_setIfInBounds]
     rw [if_neg (Ne.symm e)]
    rw [he]
    exact this
 ·cases dst with
  | none=>exact hr.sz
  | some d=>simpa [Act.put, St.put] using hr.sz
 ·cases dst<;>exact hr.df
end Go.TL

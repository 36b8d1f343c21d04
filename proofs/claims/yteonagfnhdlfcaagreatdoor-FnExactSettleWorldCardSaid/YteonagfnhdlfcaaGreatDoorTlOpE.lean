import Derived.Test.YteonagfnhdlfcaaGreatDoorG0TlCore
import Derived.Test.YteonagfnhdlfcaaGreatDoorG1TlDeep
import Derived.Deep.LoopGhost
open Array renaming toArray_toList → qa
open Nat renaming le_max_left → qb
set_option linter.unusedSimpArgs false
set_option linter.unusedVariables false
noncomputable section
namespace Go.TL
open Go
def Ent (P:Program) (f:FuncId):Prop:=∀ (args:Array Value) (w:World), (callFunc f args).run P w=.ok (.enter f args) w
theorem Ent.of {P:Program} {f:FuncId} {fn:Func} (hf:P.funcs[f]?=some fn) (hb:fn.body.isSome=true) (hn:(fn.name == "runtime.NumGoroutine")=false):Ent P f:=by
 intro args w
 have hb':fn.body.isNone=false:=by cases h:fn.body<;>simp_all
 simp only [callFunc, Sem.run_bind, run_program, Result.andThen_ok, hf, hn, hb', Bool.false_eq_true, if_false, Sem.run_pure]
def Fn (P:Program) (f:FuncId) (args:List LV) (H0:HL) (m:Nat) (res:LV) (H1:HL) (nxr:Nat):Prop:=Ent P f∧zCL P f args H0 m res H1 nxr
def zzH (P:Program) (tab:Tab) (op:BinOp) (t:Nat) (A B:LV):Option (Prop×LV) :=
 match sc? A, sc? B with
 | some (.bool p), some (.bool q)=>match zli tab t with
  | some e=>match e.sh, op with
   | .bool, .eql=>some (True, .lf false (.sc (.bool (p == q))))
   | .bool, .neq=>some (True, .lf false (.sc (.bool (!(p == q)))))
   | _, _=>none
  | none=>none
 | some x, some y=>match bin op x y with
  | some v=>some (zog op x y, .lf false (.sc v))
  | none=>none
 | _, _=>match A, B, zli tab t with
  | .ag xs, .ag ys, some e=>match e.sh with
   | .struct fs=>match ztN tab fs xs ys, op with
    | some b, .eql=>some (EqT P t, .lf false (.sc (.bool b)))
    | some b, .neq=>some (EqT P t, .lf false (.sc (.bool (!b))))
    | _, _=>none
   | _=>none
  | _, _, _=>none
def zw0 (tab:Tab) (T:List (Nat×LV)) (t:Nat) (x:Operand) (lo hi mx:Option Operand):Option (Prop×LV) :=
 match bnd T lo, bnd T hi, bnd T mx, zli tab t with
 | some l, some h, some m, some e=>match e.sh with
  | .str=>match sc? (ev T x), mx with
   | some (.string b), none=>some (0≤zlv l∧zlv l≤zlp h b.size∧zlp h b.size≤b.size, .lf false (.sc (.string (b.extract (zlv l).toNat (zlp h b.size).toNat))))
   | _, _=>none
  | .slice el=>match zli tab el with
   | some ee =>
    if h.map (·.2)=some 0∧m.map (·.2)=some 0∧lo.isNone=true then
     match ev T x with
     | .lf _ (.sl _)=>some (True, .nl)
     | .os ..=>some (True, .nl)
     | .nl=>some (True, .nl)
     | _=>none
    else match ev T x with
    | .lf tt (.sl rows)=>if mx.isNone=true then some ((0≤zlv l∧zlv l≤zlp h rows.length∧zlp h rows.length≤rows.length)∧(0 < zlv l→∀ r∈rows, r.length=ee.size),
      .lf tt (.sl ((rows.drop (zlv l).toNat).take ((zlp h rows.length).toNat - (zlv l).toNat)))) else none
    | .os id es o0 len mc ex=>if ee.size=es∧(m.isSome=true→h.isSome=true) then some (0≤zlv l∧zlv l≤zlp h len∧zlp h len≤zlp m (max len mc)∧zlp m (max len mc)≤max len mc,
      .os id es (o0+(zlv l).toNat) ((zlp h len).toNat - (zlv l).toNat) ((zlp m (max len mc)).toNat - (zlv l).toNat) (ex || m.isSome)) else none
    | .nl=>if m.isSome=true→h.isSome=true then some (zlv l=0∧zlp h 0=0∧zlp m 0=0, .nl) else none
    | _=>none
   | none=>none
  | _=>none
 | _, _, _, _=>none
def znw (tab:Tab) (T:List (Nat×LV)) (b:Builtin) (args:List Operand) (types:List Nat):Option (Prop×LV) :=
 match b, args, types with
 | .len, [x], [t]=>match zli tab t, zpP (ev T x) with
  | some e, some n=>match e.sh, sc? (ev T x) with
   | .str, some (.string _)=>some (True, .lf false (.sc (.int .i64 n)))
   | .slice _, none=>some (True, .lf false (.sc (.int .i64 n)))
   | _, _=>none
  | _, _=>none
 | b, [x, y], _=>match sc? (ev T x), sc? (ev T y) with
  | some (.int k p), some (.int _ q)=>match mm b p q with
   | some n=>some (True, .lf false (.sc (.int k n)))
   | none=>none
  | _, _=>none
 | _, _, _=>none
def zod (P:Program) (tab:Tab) (T:List (Nat×LV)) (op:Op):Option (Prop×LV) :=
 match op with
 | .move x=>some (True, ev T x)
 | .assign x=>some (True, ev T x)
 | .pick c a b=>match zsR (ev T a) (ev T b) (ev T c) with
  | some lv=>some (True, lv)
  | none=>none
 | .binOp op t x y _=>zzH P tab op t (ev T x) (ev T y)
 | .unOp op _ x=>match zys op (ev T x) with
  | some lv=>some (True, lv)
  | none=>none
 | .extract x j=>match ev T x with
  | .tu ls=>if j < ls.length then some (True, ls.getD j .un) else none
  | _=>none
 | .fieldAddr t x f=>match zli tab t with
  | some e=>match e.sh with
   | .struct fs=>match fs[f]? with
    | some (ft, fo)=>match zli tab ft, zpK (ev T x) fo with
     | some et, some lv=>if et.size≠0 then some (True, lv) else none
     | _, _=>none
    | none=>none
   | _=>none
  | none=>none
 | .nilCheck x=>match zpK (ev T x) 0 with
  | some _=>some (True, ev T x)
  | none=>none
 | .indexAddr t x y=>match zli tab t, sc? (ev T y) with
  | some e, some (.int _ n)=>match e.sh with
   | .slice el=>match zli tab el with
    | some ee=>match ev T x with
     | .lf tt (.sl rows)=>some (0≤n∧n < rows.length∧(rows.getD n.toNat []).length=ee.size, .ra tt (rows.getD n.toNat []))
     | .os id es lo len _ _=>if ee.size=es then some (0≤n∧n < len, .pe id es (lo+n.toNat) 0) else none
     | _=>none
    | none=>none
   | _=>none
  | _, _=>none
 | .index t x y=>match zli tab t, sc? (ev T x), sc? (ev T y) with
  | some e, some (.string b), some (.int _ n)=>match e.sh with
   | .str=>some (0≤n∧n < b.size, .lf false (.sc (.int .u8 (bt b n))))
   | _=>none
  | _, _, _=>none
 | .field t x f=>match zli tab t, ev T x with
  | some e, .ag ls=>match e.sh with
   | .struct fs=>match fs[f]? with
    | some (ft, fo)=>match zli tab ft with
     | some et=>if et.sh.known=true∧fo+et.size≤ls.length∧(et.sh.agg=true∨0 < et.size) then some (True, zon et.sh.agg ((ls.drop fo).take et.size)) else none
     | none=>none
    | none=>none
   | _=>none
  | _, _=>none
 | .makeFunc fn first caps=>match fn with
  | .func f=>if first=#[] then some (True, .fn f (caps.toList.map (ev T))) else none
  | _=>none
 | .convert t u x=>match zli tab t, zli tab u, sc? (ev T x) with
  | some e, some f, some (.int k n)=>match e.sh, f.sh with
   | .int k', .int k2=>if k=k' then some (True, .lf false (.sc (.int k2 (k2.wrap n)))) else none
   | _, _=>none
  | _, _, _=>none
 | .slice t x lo hi mx=>zw0 tab T t x lo hi mx
 | .build t parts=>match zli tab t with
  | some e=>match e.sh with
   | .struct fs=>match zqN tab fs with
    | some ps=>match zmQ T ps (e.zero.map zma) parts.toList with
     | some ls=>some (True, .ag ls)
     | none=>none
    | none=>none
   | _=>none
  | none=>none
 | .call c=>match c.callee with
  | .builtin b=>znw tab T b c.args.toList c.argTypes.toList
  | _=>none
 | _=>none
def zs6 (x y:LV) (n:Nat):Nat:=match x, y with
 | .os id _ _ _ mc _, .os id' _ _ _ _ _=>if id=id' then max n mc else n
 | _, _=>n
def zvP (f:Nat→Option (List DSh)):List (Nat×Nat)→Option (List DSh)
 | []=>some []
 | (t, _) :: r=>match f t, zvP f r with
  | some a, some b=>some (a++b)
  | _, _=>none
def zmz (tab:Tab):Nat→Nat→Option (List DSh)
 | 0, _=>none
 | n+1, t=>match zli tab t with
  | some e=>match e.sh with
   | .int _=>some [.sc]
   | .bool=>some [.sc]
   | .str=>some [.sc]
   | .slice el=>(zmz tab n el).map λ ss=>[.sl ss]
   | .struct fs=>zvP (zmz tab n) fs
   | _=>none
  | none=>none
def zqF (T:List (Nat×LV)):List (Nat×Operand)→Option (List LV)
 | [(0, x)]=>zme (ev T x)
 | _=>none
theorem zyx {T:List (Nat×LV)} {l:List (Nat×Operand)} {ks:List LV} (h:zqF T l=some ks):∃ x, l=[(0, x)]∧zme (ev T x)=some ks:=by
 unfold zqF at h
 split at h
 ·exact ⟨_, rfl, h⟩
 ·cases h
theorem zvQ {T T':List (Nat×LV)} (l:List (Nat×Operand)) (h:∀ p∈l, ev T' p.2=ev T p.2):zqF T' l=zqF T l:=by
 unfold zqF
 split
 ·rw [h _ (List.mem_singleton.2 rfl)]
 ·rfl
def zub (ss:Option (List DSh)) (ee:TE):Option (List DSh×List Leaf):=match ss with
 | some ss=>if ss.all DSh.isSc=true then none else if ss.length=ee.size then (match zo6 [] ss (ee.zero.map zma) with
  | some (zl, [], true)=>some (ss, zl)
  | _=>none) else none
 | none=>none
def zw1 (id lo len:Nat):Option (Bool×Ob)→Option (Nat×List DSh×List Leaf×List LV)
 | some (_, .foc ss [r] p ks)=>if lo=0∧len=1∧p=0 then some (id, ss, r, ks) else none
 | _=>none
def zyy (H:zlM):LV→Option (Nat×List DSh×List Leaf×List LV)
 | .os id _ lo len _ _=>zw1 id lo len (H id)
 | _=>none
def zoG (tab:Tab) (s:St) (x:LV) (q:List DSh×List Leaf×List LV) (ee:TE):Option Res :=
 if 0 < ee.bytes∧ee.zero.length=ee.size∧0 < ee.size∧q.1.length=ee.size then (match x with
  | .nl=>some ⟨ee.bytes≤140737488355328, .os s.nx ee.size 0 1 1 false, (s.nx, some (true, .foc q.1 [q.2.1] 0 q.2.2)) :: s.H, s.nx+1⟩
  | .os id es 0 len _ _=>match hp s.H id with
   | some (fr, .deep ss old)=>if ee.size=es∧q.2.2.all flat=true then some ⟨ss=q.1∧len=old.length∧(len+1) * ee.bytes≤140737488355328, .os s.nx es 0 (len+1) (len+1) false, (s.nx, some (fr, .foc ss (old++[q.2.1]) len q.2.2)) :: (id, none) :: s.H, s.nx+1⟩ else none
   | _=>none
  | _=>none) else none
def znV (tab:Tab) (s:St) (args:List Operand) (types:List Nat):Option Res :=
 match args, types with
 | [x, y], [t, u]=>match zli tab t, zli tab u with
  | some e, some e2=>match e.sh, e2.sh with
   | .slice el, .slice _=>match zyy (hp s.H) (ev s.T y) with
    | some q=>match zli tab el with
     | some ee=>zoG tab s (ev s.T x) q.2 ee
     | none=>none
    | none=>match zli tab el, zmL (hp s.H) (ev s.T y) with
    | some ee, some (tx, rows) =>
     if 0 < ee.bytes∧ee.zero.length=ee.size then match ev s.T x with
      | .nl=>some ⟨(∀ r∈rows, r.length=ee.size)∧rows.length * ee.bytes≤140737488355328, .os s.nx ee.size 0 rows.length rows.length false, (s.nx, some (true, .arr tx ee.size rows)) :: s.H, s.nx+1⟩
      | .os id es lo len _ _=>match hp s.H id with
       | some (fr, .arr t1 es' old)=>if ee.size=es∧es'=es then
        some ⟨lo+len≤old.length∧(∀ r∈rows, r.length=es)∧(len+rows.length) * ee.bytes≤140737488355328, .os s.nx es 0 (len+rows.length) (zs6 (ev s.T x) (ev s.T y) (len+rows.length)) false,
         (s.nx, some (fr, .arr (t1 || tx) es ((old.drop lo).take len++rows))) :: (id, none) :: s.H, s.nx+1⟩ else none
       | _=>none
      | _=>none
     else none
    | _, _=>none
   | _, _=>none
  | _, _=>none
 | _, _=>none
def zpT (tab:Tab) (s:St) (args:List Operand) (types:List Nat):Option Res :=
 match args, types with
 | [x], [t]=>match zli tab t with
  | some e=>match e.sh with
   | .slice el=>match zli tab el, ev s.T x with
    | some ee, .os id es lo _ _ _=>match hp s.H id, zmx (ee.zero.map zma) with
     | some (_, .arr _ es' old), some (false, _)=>if ee.zero.length=ee.size∧ee.size=es∧es'=es then some ⟨old.length≤lo, .un, s.H, s.nx⟩ else none
     | _, _=>none
    | _, _=>none
   | _=>none
  | none=>none
 | _, _=>none
def opE (P:Program) (tab:Tab) (s:St) (op:Op):Option Res :=
 match op with
 | .alloc t=>match zli tab t with
  | some e=>some ⟨True, .pb s.nx 0, (s.nx, some (true, .box (e.zero.map zma))) :: s.H, s.nx+1⟩
  | none=>none
 | .box _ x=>match zme (ev s.T x) with
  | some ls=>some ⟨True, .pb s.nx 0, (s.nx, some (true, .box ls)) :: s.H, s.nx+1⟩
  | none=>none
 | .load t x=>match zli tab t with
  | none=>none
  | some e=>if e.sh.known=true∧(e.sh.agg=true∨0 < e.size) then (match ev s.T x with
   | .pb id off=>match hp s.H id with
    | some (_, .box ls)=>if off+e.size≤ls.length then some ⟨True, zon e.sh.agg ((ls.drop off).take e.size), s.H, s.nx⟩ else none
    | _=>none
   | .pe id es i off=>match hp s.H id with
    | some (_, .arr tt es' rows)=>if es'=es then some ⟨i < rows.length∧off+e.size≤(rows.getD i []).length, zon e.sh.agg ((((rows.getD i []).drop off).take e.size).map (mk tt)), s.H, s.nx⟩ else none
    | some (_, .deep ss rows)=>if ss.length=es∧((ss.drop off).take e.size).all DSh.isSc=true then some ⟨i < rows.length∧off+e.size≤(rows.getD i []).length, zon e.sh.agg ((((rows.getD i []).drop off).take e.size).map (mk false)), s.H, s.nx⟩ else none
    | some (_, .foc ss _ p ks)=>if ss.length=es∧off+e.size≤ks.length then some ⟨i=p, zon e.sh.agg ((ks.drop off).take e.size), s.H, s.nx⟩ else none
    | _=>none
   | .ra tt ls=>some ⟨e.size≤ls.length, zon e.sh.agg ((ls.take e.size).map (mk tt)), s.H, s.nx⟩
   | _=>none) else none
 | .store t x y=>match zli tab t, zme (ev s.T y) with
  | some e, some ks=>if ks.length=e.size then (match ev s.T x with
   | .pb id off=>match hp s.H id with
    | some (fr, .box ls)=>if ks.all flat=true∧off+e.size≤ls.length then some ⟨True, .un, (id, some (fr, .box (put ls off ks))) :: s.H, s.nx⟩ else none
    | _=>none
   | .pe id es i off=>match hp s.H id with
    | some (fr, .arr tt es' rows)=>(match zmx ks with
     | some (tu, ls)=>if es'=es then some ⟨i < rows.length∧off+e.size≤(rows.getD i []).length, .un, (id, some (fr, .arr (tt || tu) es (rows.set i (put (rows.getD i []) off ls)))) :: s.H, s.nx⟩ else none
     | none=>none)
    | some (fr, .deep ss rows)=>if ss.length=es∧off=0∧e.size=ss.length∧ks.all flat=true then some ⟨i < rows.length, .un, (id, some (fr, .foc ss rows i ks)) :: s.H, s.nx⟩ else none
    | some (fr, .foc ss rows p ks0)=>if ss.length=es∧ks.all flat=true∧off+e.size≤ks0.length then some ⟨i=p, .un, (id, some (fr, .foc ss rows p (put ks0 off ks))) :: s.H, s.nx⟩ else none
    | _=>none
   | _=>none) else none
  | _, _=>none
 | .makeSlice t x y=>match zli tab t, sc? (ev s.T x), sc? (ev s.T y) with
  | some e, some (.int _ n), some (.int _ n')=>match e.sh with
   | .slice el=>match zli tab el with
    | some ee=>match zmx (ee.zero.map zma) with
     | some (false, zl)=>if ee.zero.length=ee.size then (match zub (zmz tab 9 el) ee with
      | some (ss, zl')=>some ⟨n'=n∧0≤n∧n * ee.bytes≤281474976710656∧n≤9223372036854775807, .os s.nx ee.size 0 n.toNat n.toNat true, (s.nx, some (true, .deep ss (List.replicate n.toNat zl'))) :: s.H, s.nx+1⟩
      | none=>some ⟨n'=n∧0≤n∧n * ee.bytes≤281474976710656∧n≤9223372036854775807, .os s.nx ee.size 0 n.toNat n.toNat true, (s.nx, some (true, .arr false ee.size (List.replicate n.toNat zl))) :: s.H, s.nx+1⟩) else none
     | _=>none
    | none=>none
   | _=>none
  | _, _, _=>none
 | .buildSlice t len parts=>match zli tab t with
  | some e=>match e.sh with
   | .slice el=>match zli tab el with
    | some ee=>match zmH s.T ee.size parts.toList with
     | some (tt, rows)=>if parts.toList.map (·.1)=List.range len∧len * ee.size≤16777216∧len≤16777216 then some ⟨True, .os s.nx ee.size 0 len len true, (s.nx, some (true, .arr tt ee.size rows)) :: s.H, s.nx+1⟩ else none
     | none=>match zqF s.T parts.toList, zmz tab 9 el with
      | some ks, some ss=>if len=1∧ks.length=ee.size∧ss.length=ee.size∧ee.size≤16777216 then some ⟨True, .os s.nx ee.size 0 1 1 true, (s.nx, some (true, .foc ss [List.replicate ss.length (.sl [])] 0 ks)) :: s.H, s.nx+1⟩ else none
      | _, _=>none
    | none=>none
   | _=>none
  | none=>none
 | .convert t u x=>match zli tab t with
  | some e=>match e.sh with
   | .slice el=>match zli tab el, zli tab u, zmL (hp s.H) (ev s.T x) with
    | some ee, some f, some (_, rows)=>match ee.sh, f.sh, znm rows with
     | .int .u8, .str, some ns=>some ⟨True, .lf false (.sc (.string (ztL ns))), s.H, s.nx⟩
     | _, _, _=>none
    | _, _, _=>none
   | _=>(zod P tab s.T (.convert t u x)).map λ p=>⟨p.1, p.2, s.H, s.nx⟩
  | none=>none
 | .call c=>match c.callee with
  | .builtin .append=>znV tab s c.args.toList c.argTypes.toList
  | .builtin .clear=>zpT tab s c.args.toList c.argTypes.toList
  | _=>(zod P tab s.T (.call c)).map λ p=>⟨p.1, p.2, s.H, s.nx⟩
 | op=>(zod P tab s.T op).map λ p=>⟨p.1, p.2, s.H, s.nx⟩
def zw2 (tab:Tab) (T:List (Nat×LV)):Op→Bool
 | .binOp op t x y _=>(match op with | .eql=>true | .neq=>true | _=>false) && (match y with | .const (.slice none 0 0)=>true | _=>false) && (match zli tab t with | some e=>(match e.sh with | .slice _=>true | _=>false) | none=>false) &&
   (match ev T x with | .nl=>true | .os ..=>true | .lf _ (.sl _)=>true | _=>false)
 | _=>false
def zoU (tab:Tab) (T:List (Nat×LV)):Op→Option (Bool×LV)
 | .binOp op t x y t'=>if zw2 tab T (.binOp op t x y t')=true then some ((match op with | .eql=>true | _=>false), ev T x) else none
 | _=>none
def zxR:LV→Prop
 | .lf _ (.sl rows)=>rows=[]
 | .os _ _ _ len _ _=>len=0
 | _=>True
def zyz (isNil:Bool) (lv:LV):Prop:=isNil=true→zxR lv
def zn2:Op→Option (Operand×Array Operand)
 | .call c=>match c.callee with
  | .value f=>some (f, c.args)
  | _=>none
 | _=>none
section
variable {P:Program} {s:St}
theorem zyA {tab:Tab} (htab:zmE P tab) {op:BinOp} {t t':Nat} {x y:Operand} {p:Prop×LV} (h:zzH P tab op t (ev s.T x) (ev s.T y)=some p):Does P (.binOp op t x y t') s ⟨p.1, p.2, s.H, s.nx⟩:=by
 have tk:∀ {t e}, zli tab t=some e→OkT P t e:=λ h=>htab _ (zmF h)
 unfold zzH at h
 split at h
 ·rename_i p q hp hq
  split at h
  ·rename_i e he
   split at h
   ·rename_i hsh;cases h
    have:=zq7 (P:=P) (s:=s) (t':=t') (op:=.eql) (tk he) hsh (.inl rfl) hp hq
    simpa using this
   ·rename_i hsh;cases h
    have:=zq7 (P:=P) (s:=s) (t':=t') (op:=.neq) (tk he) hsh (.inr rfl) hp hq
    simpa using this
   ·cases h
  ·cases h
 ·rename_i p q hne hp hq
  split at h
  ·rename_i v hv;cases h;exact zzA hp hq hv
  ·cases h
 ·split at h
  ·rename_i xs ys e hx hy he
   split at h
   ·rename_i fs hsh
    split at h
    ·rename_i b hb;cases h
     have:=zt7 (s:=s) (t':=t') (op:=.eql) htab (tk he) hsh (.inl rfl) hx hy hb
     simpa using this
    ·rename_i b hb;cases h
     have:=zt7 (s:=s) (t':=t') (op:=.neq) htab (tk he) hsh (.inr rfl) hx hy hb
     simpa using this
    ·cases h
   ·cases h
  ·cases h
theorem Does.weak {op:Op} {r:Res} {p:Prop} (h:Does P op s r) (hp:p→r.pre):Does P op s ⟨p, r.v, r.H, r.nx⟩:=λ w0 W0 c a w hr hq=>h w0 W0 c a w hr (hp hq)
theorem zyB {tab:Tab} (htab:zmE P tab) {t:Nat} {x:Operand} {lo hi mx:Option Operand} {p:Prop×LV} (h:zw0 tab s.T t x lo hi mx=some p):Does P (.slice t x lo hi mx) s ⟨p.1, p.2, s.H, s.nx⟩:=by
 have tk:∀ {t e}, zli tab t=some e→OkT P t e:=λ h=>htab _ (zmF h)
 unfold zw0 at h
 split at h
 ·rename_i l hh m e hl hhi hm he
  split at h
  ·rename_i hsh
   split at h
   ·rename_i b hx
    cases h
    exact zuP (tk he) hsh hx hl hhi
   ·cases h
  ·rename_i el hsh
   split at h
   ·rename_i ee hee
    split at h
    ·rename_i hc
     obtain ⟨c1, c2, c3⟩:=hc
     have h0:zlv l=0:=by
      cases lo with
      | none=>simp [bnd] at hl;subst hl;rfl
      | some _=>simp at c3
     have h1:∃ k, hh=some (k, 0):=by
      cases hh with
      | none=>simp at c1
      | some q=>obtain ⟨k, n⟩:=q;simp at c1;subst c1;exact ⟨k, rfl⟩
     have h2:∃ k, m=some (k, 0):=by
      cases m with
      | none=>simp at c2
      | some q=>obtain ⟨k, n⟩:=q;simp at c2;subst c2;exact ⟨k, rfl⟩
     split at h
     ·rename_i hx;cases h
      exact zoT (tk he) hsh (tk hee) (by rw [hx];rfl) hl hhi hm h0 h1 h2 (λ b=>by rw [hx];simp [sc?])
     ·rename_i hx;cases h
      exact zoT (tk he) hsh (tk hee) (by rw [hx];rfl) hl hhi hm h0 h1 h2 (λ b=>by rw [hx];simp [sc?])
     ·rename_i hx;cases h
      exact zoT (tk he) hsh (tk hee) (by rw [hx];rfl) hl hhi hm h0 h1 h2 (λ b=>by rw [hx];simp [sc?])
     ·cases h
    ·split at h
     ·rename_i tt rows hx
      split at h
      ·rename_i hmx
       cases h
       cases mx with
       | some _=>simp at hmx
       | none=>exact zvE (tk he) hsh (tk hee) hx hl hhi
      ·cases h
     ·rename_i hx
      split at h
      ·rename_i hc;cases h;exact zvF (tk he) hsh (tk hee) hc.1 hx hl hhi hm hc.2
      ·cases h
     ·rename_i hx
      split at h
      ·rename_i hc;cases h;exact zvG (tk he) hsh (tk hee) hx hl hhi hm hc
      ·cases h
     ·cases h
   ·cases h
  ·cases h
 ·cases h
theorem ztR {tab:Tab} (htab:zmE P tab) {b:Builtin} {c:Call} (hc:c.callee=.builtin b) {p:Prop×LV} (h:znw tab s.T b c.args.toList c.argTypes.toList=some p):Does P (.call c) s ⟨p.1, p.2, s.H, s.nx⟩:=by
 have tk:∀ {t e}, zli tab t=some e→OkT P t e:=λ h=>htab _ (zmF h)
 unfold znw at h
 split at h
 ·rename_i x t ha ht
  have ha':c.args=#[x]:=by rw [← qa (xs:=c.args), ha]
  have ht':c.argTypes=#[t]:=by rw [← qa (xs:=c.argTypes), ht]
  split at h
  ·rename_i e n he hn
   split at h
   ·rename_i b hsh hb
    cases h
    exact (zvD (tk he) (.inl hsh) hc ha' ht' hn).weak λ _=>⟨λ _=>⟨b, hb⟩, λ _=>hsh⟩
   ·rename_i el hsh hb
    cases h
    exact (zvD (tk he) (.inr ⟨el, hsh⟩) hc ha' ht' hn).weak λ _=>Iff.intro (λ h=>by rw [hsh] at h;cases h) (λ h=>by obtain ⟨b, hb'⟩:=h;rw [hb] at hb';cases hb')
   ·cases h
  ·cases h
 ·rename_i x y ha
  have ha':c.args=#[x, y]:=by rw [← qa (xs:=c.args), ha]
  split at h
  ·rename_i k p q hx hy
   rename_i k2 _
   split at h
   ·rename_i n hn
    cases h
    exact zBh hc ha' (by assumption) (by assumption) hn
   ·cases h
  ·cases h
 ·cases h
theorem zw3 {tab:Tab} (htab:zmE P tab) {op:Op} {p:Prop×LV} (h:zod P tab s.T op=some p):Does P op s ⟨p.1, p.2, s.H, s.nx⟩:=by
 have tk:∀ {t e}, zli tab t=some e→OkT P t e:=λ h=>htab _ (zmF h)
 unfold zod at h
 split at h
 ·cases h;exact zyq _
 ·cases h;exact zvv _
 ·split at h
  ·rename_i hx;cases h;exact zyr hx
  ·cases h
 ·exact zyA htab h
 ·split at h
  ·rename_i hx;cases h;exact zA9 hx
  ·cases h
 ·split at h
  ·rename_i hx
   split at h
   ·rename_i hj;cases h;exact zuG hx hj
   ·cases h
  ·cases h
 ·split at h
  ·rename_i e hx
   split at h
   ·rename_i fs hsh
    split at h
    ·rename_i ft fo hf
     split at h
     ·rename_i et lv hx2 hm
      split at h
      ·rename_i h0;cases h;exact zsT (tk hx) hsh hf (tk hx2) h0 hm
      ·cases h
     ·cases h
    ·cases h
   ·cases h
  ·cases h
 ·split at h
  ·rename_i hx;cases h;exact ztH hx
  ·cases h
 ·split at h
  ·rename_i e k n hx hy
   split at h
   ·rename_i el hsh
    split at h
    ·rename_i ee hx2
     split at h
     ·rename_i tt rows hx3
      cases h
      refine (zq4 (row:=rows.getD n.toNat []) (tk hx) hsh (tk hx2) hx3 hy).weak λ ⟨h1, h2, h3⟩=>⟨h1, ?_, h3⟩
      have:n.toNat < rows.length:=by omega
      simp [this]
     ·split at h
      ·rename_i hx3 h1;cases h;exact zq5 (tk hx) hsh (tk hx2) h1 hx3 hy
      ·cases h
     ·cases h
    ·cases h
   ·cases h
  ·cases h
 ·split at h
  ·rename_i e b k n hx hb hn
   split at h
   ·rename_i hsh;cases h;exact zwT (tk hx) hsh hb hn
   ·cases h
  ·cases h
 ·split at h
  ·rename_i e ls hx hl
   split at h
   ·rename_i fs hsh
    split at h
    ·rename_i ft fo hf
     split at h
     ·rename_i et he
      split at h
      ·rename_i hc
       cases h
       exact zwU (tk hx) hsh hf (tk he) hc.1 hl hc.2.1 λ hf=>hc.2.2.elim (λ h=>by rw [hf] at h;cases h) id
      ·cases h
     ·cases h
    ·cases h
   ·cases h
  ·cases h
 ·split at h
  ·split at h
   ·rename_i hf;cases h;subst hf;exact ztM
   ·cases h
  ·cases h
 ·split at h
  ·rename_i e f k n he hf hx
   split at h
   ·rename_i k' k2 h1 h2
    split at h
    ·rename_i hk;subst hk;cases h;exact zrA (tk he) h1 (tk hf) h2 hx
    ·cases h
   ·cases h
  ·cases h
 ·exact zyB htab h
 ·split at h
  ·rename_i e he
   split at h
   ·rename_i fs hsh
    split at h
    ·rename_i ps hps
     split at h
     ·rename_i ls hls;cases h;exact zwX htab (tk he) hsh hps hls
     ·cases h
    ·cases h
   ·cases h
  ·cases h
 ·split at h
  ·rename_i b hc;exact ztR htab hc h
  ·cases h
 ·cases h
theorem zuV {tab:Tab} (htab:zmE P tab) {c:Call} (hc:c.callee=.builtin .append) {r:Res} (h:znV tab s c.args.toList c.argTypes.toList=some r):Does P (.call c) s r:=by
 have tk:∀ {t e}, zli tab t=some e→OkT P t e:=λ h=>htab _ (zmF h)
 unfold znV at h
 split at h
 ·rename_i x y t u ha ht
  have ha':c.args=#[x, y]:=by rw [← qa (xs:=c.args), ha]
  have ht':c.argTypes=#[t, u]:=by rw [← qa (xs:=c.argTypes), ht]
  split at h
  ·rename_i e e2 he he2
   split at h
   ·rename_i el el2 hsh hsh2
    split at h
    ·rename_i q hq
     split at h
     ·rename_i ee hee
      obtain ⟨idy, ss, r0, ks⟩:=q
      have hfy:∃ esy mcy exy fry, ev s.T y=.os idy esy 0 1 mcy exy∧hp s.H idy=some (fry, .foc ss [r0] 0 ks):=by
       unfold zyy at hq
       split at hq
       ·rename_i id es lo len mc ex hy
        unfold zw1 at hq
        split at hq
        ·rename_i fr ss' r' p' ks' ho
         split at hq
         ·rename_i hc3
          obtain ⟨rfl, rfl, rfl⟩:=hc3
          cases hq
          exact ⟨_, _, _, _, hy, ho⟩
         ·cases hq
        ·cases hq
       ·cases hq
      obtain ⟨esy, mcy, exy, fry, hy, hoy⟩:=hfy
      unfold zoG at h
      split at h
      ·rename_i hb
       obtain ⟨hb1, hb2, hb3, hb4⟩:=hb
       split at h
       ·rename_i hx;cases h
        exact zqO hc ha' ht' (tk he) hsh (tk he2) hsh2 (tk hee) hb1 hb2 hb3 hb4 hx hy hoy
       ·rename_i id es len mc ex hx
        split at h
        ·rename_i fr ss2 old ho
         split at h
         ·rename_i hes
          cases h
          intro w0 W0 cx a w hr hp
          obtain ⟨h1, h2, h3⟩:=hp
          simp only at h1
          subst h1
          exact zqP hc ha' ht' (tk he) hsh (tk he2) hsh2 (tk hee) hb1 hb2 hb3 hb4 hes.1 hes.2 hx ho h2 hy hoy w0 W0 cx a w hr h3
         ·cases h
        ·cases h
       ·cases h
      ·cases h
     ·cases h
    split at h
    ·rename_i ee tx rows hee hrows
     split at h
     ·rename_i hb
      split at h
      ·rename_i hx;cases h
       exact zsX hc ha' ht' (tk he) hsh (tk he2) hsh2 (tk hee) hb.1 hb.2 hx hrows
      ·rename_i id es lo len mc ex hx
       split at h
       ·rename_i fr t1 es' old ho
        split at h
        ·rename_i hes
         obtain ⟨h1, h2⟩:=hes
         subst h2
         cases h
         intro w0 W0 cx a w hr hp
         refine zsY (room:=zs6 (ev s.T x) (ev s.T y) (len+rows.length)) hc ha' ht' (tk he) hsh (tk he2) hsh2 (tk hee) hb.1 hb.2 h1 hx ho hp.1 hrows ?_ w0 W0 cx a w hr hp.2
         rw [hx]
         cases ev s.T y with
         | os id' es' lo' len' mc' ex' =>
          show (if id=id' then max (len+rows.length) mc else len+rows.length)≤_
          split
          ·exact Nat.le_refl _
          ·exact qb _ _
         | _=>exact qb _ _
        ·cases h
       ·cases h
      ·cases h
     ·cases h
    ·cases h
   ·cases h
  ·cases h
 ·cases h
theorem zvR {tab:Tab} (htab:zmE P tab) {c:Call} (hc:c.callee=.builtin .clear) {r:Res} (h:zpT tab s c.args.toList c.argTypes.toList=some r):Does P (.call c) s r:=by
 have tk:∀ {t e}, zli tab t=some e→OkT P t e:=λ h=>htab _ (zmF h)
 unfold zpT at h
 split at h
 ·rename_i x t ha ht
  have ha':c.args=#[x]:=by rw [← qa (xs:=c.args), ha]
  have ht':c.argTypes=#[t]:=by rw [← qa (xs:=c.argTypes), ht]
  split at h
  ·rename_i e he
   split at h
   ·rename_i el hsh
    split at h
    ·rename_i ee id es lo len mc ex hee hx
     split at h
     ·rename_i fr t1 es' old zl ho hz
      split at h
      ·rename_i hb
       obtain ⟨h1, h2, h3⟩:=hb
       subst h3
       cases h
       exact zwW hc ha' ht' (tk he) hsh (tk hee) h1 hz h2 hx ho
      ·cases h
     ·cases h
    ·cases h
   ·cases h
  ·cases h
 ·cases h
theorem zzJ {tab:Tab} (htab:zmE P tab) {op:Op} {r:Res} (h:opE P tab s op=some r):Does P op s r:=by
 have tk:∀ {t e}, zli tab t=some e→OkT P t e:=λ h=>htab _ (zmF h)
 have pur:(zod P tab s.T op).map (λ p=>(⟨p.1, p.2, s.H, s.nx⟩:Res))=some r→Does P op s r:=λ h=>by
  cases hp:zod P tab s.T op with
  | none=>rw [hp] at h;cases h
  | some p=>rw [hp] at h;cases h;exact zw3 htab hp
 unfold opE at h
 split at h
 ·split at h
  ·rename_i hx;cases h;exact zwO (tk hx)
  ·cases h
 ·split at h
  ·rename_i hx;cases h;exact zzB hx
  ·cases h
 ·split at h
  ·cases h
  ·rename_i e hx
   split at h
   ·rename_i h1
    have h0:e.sh.agg=false→0 < e.size:=λ hf=>h1.2.elim (λ h=>by rw [hf] at h;cases h) id
    split at h
    ·rename_i id off hx2
     split at h
     ·rename_i fr ls hob
      split at h
      ·rename_i h2;cases h;exact zuH (tk hx) h1.1 hx2 hob h2 h0
      ·cases h
     ·cases h
    ·rename_i id es i off hx2
     split at h
     ·rename_i fr tt es' rows hob
      split at h
      ·rename_i hes
       subst hes
       cases h
       refine (zuL (row:=rows.getD i []) (tk hx) h1.1 hx2 hob h0).weak λ hp=>⟨?_, hp.2⟩
       have:=hp.1
       simp [this]
      ·cases h
     ·rename_i fr ss rows hob
      split at h
      ·rename_i hes
       cases h
       refine (zs4 (row:=rows.getD i []) (tk hx) h1.1 hx2 hob hes.1 hes.2 h0).weak λ hp=>⟨?_, hp.2⟩
       have:=hp.1
       simp [this]
      ·cases h
     ·rename_i fr ss rows p ks hob
      split at h
      ·rename_i hes;cases h;exact ztP (tk hx) h1.1 hx2 hob hes.1 hes.2 h0
      ·cases h
     ·cases h
    ·rename_i tt ls hx2
     cases h
     intro w0 W0 cx a w hr hp
     exact zuJ (tk hx) h1.1 hx2 hp h0 w0 W0 cx a w hr trivial
    ·cases h
   ·cases h
 ·split at h
  ·rename_i e ks hx hks
   split at h
   ·rename_i h1
    split at h
    ·rename_i id off hx2
     split at h
     ·rename_i fr ls hob
      split at h
      ·rename_i h2;cases h;exact ztG (tk hx) hx2 hob hks h2.1 h1 h2.2
      ·cases h
     ·cases h
    ·rename_i id es i off hx2
     split at h
     ·rename_i fr tt es' rows hob
      split at h
      ·rename_i tu ls hls
       split at h
       ·rename_i hes
        subst hes
        cases h
        refine (ztJ (row:=rows.getD i []) (tk hx) hx2 hob hks hls h1).weak λ hp=>⟨?_, hp.2⟩
        have:=hp.1
        simp [this]
       ·cases h
      ·cases h
     ·rename_i fr ss rows hob
      split at h
      ·rename_i hes
       obtain ⟨hes, rfl, hsz, hfl⟩:=hes
       cases h
       have hput:put ks 0 ks=ks:=by simp [put]
       have:=zpR (ks0:=ks) (tk hx) hx2 hob (.inl ⟨rfl, rfl, hsz, rfl⟩) hes hks hfl h1 (by omega)
       rw [hput] at this
       exact this.weak λ hp=>⟨λ _=>hp, λ p hp=>by cases hp⟩
      ·cases h
     ·rename_i fr ss rows p ks0 hob
      split at h
      ·rename_i hes
       cases h
       intro w0 W0 cx a w hr hp
       have hp:i=p:=hp
       have:=zpR (ks0:=ks0) (tk hx) hx2 hob (.inr ⟨p, rfl⟩) hes.1 hks hes.2.1 h1 hes.2.2 w0 W0 cx a w hr ⟨λ h=>(by cases h), λ p' h=>(by cases h;exact hp)⟩
       rw [hp] at this
       exact this
      ·cases h
     ·cases h
    ·cases h
   ·cases h
  ·cases h
 ·split at h
  ·rename_i e k1 n k2 n' he hx hy
   split at h
   ·rename_i el hsh
    split at h
    ·rename_i ee hee
     split at h
     ·rename_i zl hz
      split at h
      ·rename_i hzs
       split at h
       ·rename_i ss zl' hdz
        cases h
        intro w0 W0 cx a w hr hp
        obtain ⟨rfl, hp⟩:=hp
        have hdz2:ss.length=ee.size∧zo6 [] ss (ee.zero.map zma)=some (zl', [], true):=by
         unfold zub at hdz
         split at hdz
         ·split at hdz
          ·cases hdz
          ·split at hdz
           ·split at hdz
            ·rename_i h3 _ _ h4;cases hdz;exact ⟨h3, h4⟩
            ·cases hdz
           ·cases hdz
         ·cases hdz
        exact zs5 (tk he) hsh (tk hee) hzs hdz2.1 hdz2.2 hx hy w0 W0 cx a w hr hp
       ·cases h
        intro w0 W0 cx a w hr hp
        obtain ⟨rfl, hp⟩:=hp
        exact zyu (tk he) hsh (tk hee) hzs hz hx hy w0 W0 cx a w hr hp
      ·cases h
     ·cases h
    ·cases h
   ·cases h
  ·cases h
 ·split at h
  ·rename_i e he
   split at h
   ·rename_i el hsh
    split at h
    ·rename_i ee hee
     split at h
     ·rename_i tt rows hp
      split at h
      ·rename_i hc;cases h;exact zsm (tk he) hsh (tk hee) hp hc.1 hc.2
      ·cases h
     ·split at h
      ·rename_i ks ss hpx hds
       obtain ⟨x, hp1, hks⟩:=zyx hpx
       split at h
       ·rename_i hc
        obtain ⟨rfl, h1, h2, h3⟩:=hc
        cases h
        exact ztQ (tk he) hsh (tk hee) hp1 hks h1 h2 (by simp) h3
       ·cases h
      ·cases h
    ·cases h
   ·cases h
  ·cases h
 ·split at h
  ·rename_i e he
   split at h
   ·rename_i el hsh
    split at h
    ·rename_i ee f tt rows hee hf hx
     split at h
     ·rename_i ns h1 h2 hns;cases h
      exact ztO (tk he) hsh (tk hee) h1 (tk hf) h2 hx hns
     ·cases h
    ·cases h
   ·exact pur h
  ·cases h
 ·split at h
  ·rename_i hc;exact zuV htab hc h
  ·rename_i hc;exact zvR htab hc h
  ·exact pur h
 ·exact pur h
end
def zzK (lv:LV) (K:Bool→Prop):Prop:=match sc? lv with
 | some (.bool b)=>K b
 | _=>False
theorem zxS {lv:LV} {K:Bool→Prop} (h:zzK lv K):∃ b, sc? lv=some (.bool b)∧K b:=by
 unfold zzK at h
 split at h
 ·exact ⟨_, by assumption, h⟩
 ·exact h.elim
def plain (x:Option Res) (n:Option (Bool×LV)) (s:St) (K:LV→HL→Nat→Prop):Prop:=match x with
 | some r=>r.pre∧K r.v r.H r.nx
 | none=>∃ (e:Bool) (lv:LV), n=some (e, lv)∧∀ b:Bool, zyz (b == e) lv→K (.lf false (.sc (.bool b))) s.H s.nx
def zuc (P:Program) (s:St) (f:LV) (args:List LV) (K:LV→HL→Nat→Prop):Prop:=match f with
 | .fn g caps=>Ent P g∧zzC P s g (args++caps) K
 | _=>False
def opW (P:Program) (tab:Tab) (s:St) (op:Op) (K:LV→HL→Nat→Prop):Prop :=
 match zn2 op with
 | some (f, args)=>zuc P s (ev s.T f) (args.toList.map (ev s.T)) K
 | none=>plain (opE P tab s op) (zoU tab s.T op) s K
def St.put (s:St) (dst:Option Nat) (lv:LV) (H:HL) (nx:Nat):St :=
 ⟨match dst with | some d=>(d, lv) :: s.T | none=>s.T, H, nx, s.nt⟩
def zng (s:St):Option Nat→Bool
 | some d=>decide (d < s.nt)
 | none=>true
def zqG (P:Program) (tab:Tab) (s:St) (o:Oper) (K:St→Prop):Prop :=
 zng s o.dst=true∧opW P tab s o.op λ lv H nx=>K (s.put o.dst lv H nx)
theorem zuW {w0:World} {W0:Fr} {c c':Ctx} {s:St} {a:Act} {w w':World} (hr:Rel w0 W0 c s a w) (hle:c.Le c') {H:HL} {nx:Nat} (hnx:c'.nx=nx) (hsit:Sit w0 W0 c' (hp H) w') (hsame:Same c w w')
  {dst:Option Nat} (hd:zng s dst=true) {lv:LV} {v:Value} (hv:Cv w' c' lv v):Rel w0 W0 c' (s.put dst lv H nx) (a.put dst v) w':=by
 refine ⟨hsit, hnx, λ i=>?_, ?_, ?_⟩
 ·cases dst with
  | none=>exact (hr.tmp i).mono hle hsame
  | some d =>
   have hd':d < a.tmps.size:=by rw [hr.sz];simpa [zng] using hd
   show Cv w' c' (tv ((d, lv) :: s.T) i) ((a.tmps.setIfInBounds d v).getD i undef)
   unfold tv
   simp only [zli]
   by_cases e:i=d
   ·subst e
    rw [if_pos rfl]
    simpa [hd'] using hv
   ·rw [if_neg e]
    have:=(hr.tmp i).mono hle hsame
    unfold tv at this
    have he:(a.tmps.setIfInBounds d v).getD i undef=a.tmps.getD i undef:=by
     simp only [Array.getD_eq_getD_getElem?, Array.getElem?_setIfInBounds]
     rw [if_neg (Ne.symm e)]
    rw [he]
    exact this
 ·cases dst with
  | none=>exact hr.sz
  | some d=>simpa [Act.put, St.put] using hr.sz
 ·cases dst<;>exact hr.df
end Go.TL

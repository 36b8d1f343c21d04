import Derived.Test.YteonagfnhdlfcaaGreatDoorG0TlCore
import Derived.Test.YteonagfnhdlfcaaGreatDoorG1TlDeep
import Derived.Deep.LoopGhost
set_option linter.unusedSimpArgs false
set_option linter.unusedVariables false
namespace Go.TL
open Go
def Ent (P : Program) (f : FuncId) : Prop := ∀ (args : Array Value) (w : World), (callFunc f args).run P w = .ok (.enter f args) w
theorem Ent.of {P : Program} {f : FuncId} {fn : Func} (hf : P.funcs[f]? = some fn) (hb : fn.body.isSome = true) (hn : (fn.name == "runtime.NumGoroutine") = false) : Ent P f := by
 intro args w
 have hb' : fn.body.isNone = false := by cases h : fn.body <;> simp_all
 simp only [callFunc, Sem.run_bind, run_program, Result.andThen_ok, hf, hn, hb', Bool.false_eq_true, if_false, Sem.run_pure]
def Fn (P : Program) (f : FuncId) (args : List LV) (H0 : HL) (m : Nat) (res : LV) (H1 : HL) (nxr : Nat) : Prop := Ent P f ∧ FnOk P f args H0 m res H1 nxr
def binE (P : Program) (tab : Tab) (op : BinOp) (t : Nat) (A B : LV) : Option (Prop × LV) :=
 match sc? A, sc? B with
 | some (.bool p), some (.bool q) => match look tab t with
  | some e => match e.sh, op with
   | .bool, .eql => some (True, .lf false (.sc (.bool (p == q))))
   | .bool, .neq => some (True, .lf false (.sc (.bool (!(p == q)))))
   | _, _ => none
  | none => none
 | some x, some y => match bin op x y with
  | some v => some (binP op x y, .lf false (.sc v))
  | none => none
 | _, _ => match A, B, look tab t with
  | .ag xs, .ag ys, some e => match e.sh with
   | .struct fs => match eqFs tab fs xs ys, op with
    | some b, .eql => some (EqT P t, .lf false (.sc (.bool b)))
    | some b, .neq => some (EqT P t, .lf false (.sc (.bool (!b))))
    | _, _ => none
   | _ => none
  | _, _, _ => none
def cutE (tab : Tab) (T : List (Nat × LV)) (t : Nat) (x : Operand) (lo hi mx : Option Operand) : Option (Prop × LV) :=
 match bnd T lo, bnd T hi, bnd T mx, look tab t with
 | some l, some h, some m, some e => match e.sh with
  | .str => match sc? (ev T x), mx with
   | some (.string b), none => some (0 ≤ lowOf l ∧ lowOf l ≤ highOf h b.size ∧ highOf h b.size ≤ b.size, .lf false (.sc (.string (b.extract (lowOf l).toNat (highOf h b.size).toNat))))
   | _, _ => none
  | .slice el => match look tab el with
   | some ee =>
    if h.map (·.2) = some 0 ∧ m.map (·.2) = some 0 ∧ lo.isNone = true then
     match ev T x with
     | .lf _ (.sl _) => some (True, .nl)
     | .os .. => some (True, .nl)
     | .nl => some (True, .nl)
     | _ => none
    else match ev T x with
    | .lf tt (.sl rows) => if mx.isNone = true then some ((0 ≤ lowOf l ∧ lowOf l ≤ highOf h rows.length ∧ highOf h rows.length ≤ rows.length) ∧ (0 < lowOf l → ∀ r ∈ rows, r.length = ee.size),
      .lf tt (.sl ((rows.drop (lowOf l).toNat).take ((highOf h rows.length).toNat - (lowOf l).toNat)))) else none
    | .os id es o0 len mc ex => if ee.size = es ∧ (m.isSome = true → h.isSome = true) then some (0 ≤ lowOf l ∧ lowOf l ≤ highOf h len ∧ highOf h len ≤ highOf m (max len mc) ∧ highOf m (max len mc) ≤ max len mc,
      .os id es (o0 + (lowOf l).toNat) ((highOf h len).toNat - (lowOf l).toNat) ((highOf m (max len mc)).toNat - (lowOf l).toNat) (ex || m.isSome)) else none
    | .nl => if m.isSome = true → h.isSome = true then some (lowOf l = 0 ∧ highOf h 0 = 0 ∧ highOf m 0 = 0, .nl) else none
    | _ => none
   | none => none
  | _ => none
 | _, _, _, _ => none
def builtinE (tab : Tab) (T : List (Nat × LV)) (b : Builtin) (args : List Operand) (types : List Nat) : Option (Prop × LV) :=
 match b, args, types with
 | .len, [x], [t] => match look tab t, lenLV (ev T x) with
  | some e, some n => match e.sh, sc? (ev T x) with
   | .str, some (.string _) => some (True, .lf false (.sc (.int .i64 n)))
   | .slice _, none => some (True, .lf false (.sc (.int .i64 n)))
   | _, _ => none
  | _, _ => none
 | b, [x, y], _ => match sc? (ev T x), sc? (ev T y) with
  | some (.int k p), some (.int _ q) => match mm b p q with
   | some n => some (True, .lf false (.sc (.int k n)))
   | none => none
  | _, _ => none
 | _, _, _ => none
def pureE (P : Program) (tab : Tab) (T : List (Nat × LV)) (op : Op) : Option (Prop × LV) :=
 match op with
 | .move x => some (True, ev T x)
 | .assign x => some (True, ev T x)
 | .pick c a b => match evPick (ev T a) (ev T b) (ev T c) with
  | some lv => some (True, lv)
  | none => none
 | .binOp op t x y _ => binE P tab op t (ev T x) (ev T y)
 | .unOp op _ x => match evUn op (ev T x) with
  | some lv => some (True, lv)
  | none => none
 | .extract x j => match ev T x with
  | .tu ls => if j < ls.length then some (True, ls.getD j .un) else none
  | _ => none
 | .fieldAddr t x f => match look tab t with
  | some e => match e.sh with
   | .struct fs => match fs[f]? with
    | some (ft, fo) => match look tab ft, moved (ev T x) fo with
     | some et, some lv => if et.size ≠ 0 then some (True, lv) else none
     | _, _ => none
    | none => none
   | _ => none
  | none => none
 | .nilCheck x => match moved (ev T x) 0 with
  | some _ => some (True, ev T x)
  | none => none
 | .indexAddr t x y => match look tab t, sc? (ev T y) with
  | some e, some (.int _ n) => match e.sh with
   | .slice el => match look tab el with
    | some ee => match ev T x with
     | .lf tt (.sl rows) => some (0 ≤ n ∧ n < rows.length ∧ (rows.getD n.toNat []).length = ee.size, .ra tt (rows.getD n.toNat []))
     | .os id es lo len _ _ => if ee.size = es then some (0 ≤ n ∧ n < len, .pe id es (lo + n.toNat) 0) else none
     | _ => none
    | none => none
   | _ => none
  | _, _ => none
 | .index t x y => match look tab t, sc? (ev T x), sc? (ev T y) with
  | some e, some (.string b), some (.int _ n) => match e.sh with
   | .str => some (0 ≤ n ∧ n < b.size, .lf false (.sc (.int .u8 (bt b n))))
   | _ => none
  | _, _, _ => none
 | .field t x f => match look tab t, ev T x with
  | some e, .ag ls => match e.sh with
   | .struct fs => match fs[f]? with
    | some (ft, fo) => match look tab ft with
     | some et => if et.sh.known = true ∧ fo + et.size ≤ ls.length ∧ (et.sh.agg = true ∨ 0 < et.size) then some (True, gath et.sh.agg ((ls.drop fo).take et.size)) else none
     | none => none
    | none => none
   | _ => none
  | _, _ => none
 | .makeFunc fn first caps => match fn with
  | .func f => if first = #[] then some (True, .fn f (caps.toList.map (ev T))) else none
  | _ => none
 | .convert t u x => match look tab t, look tab u, sc? (ev T x) with
  | some e, some f, some (.int k n) => match e.sh, f.sh with
   | .int k', .int k2 => if k = k' then some (True, .lf false (.sc (.int k2 (k2.wrap n)))) else none
   | _, _ => none
  | _, _, _ => none
 | .slice t x lo hi mx => cutE tab T t x lo hi mx
 | .build t parts => match look tab t with
  | some e => match e.sh with
   | .struct fs => match places tab fs with
    | some ps => match partsPut T ps (e.zero.map cellLV) parts.toList with
     | some ls => some (True, .ag ls)
     | none => none
    | none => none
   | _ => none
  | none => none
 | .call c => match c.callee with
  | .builtin b => builtinE tab T b c.args.toList c.argTypes.toList
  | _ => none
 | _ => none
def roomA (x y : LV) (n : Nat) : Nat := match x, y with
 | .os id _ _ _ mc _, .os id' _ _ _ _ _ => if id = id' then max n mc else n
 | _, _ => n
def dshFs (f : Nat → Option (List DSh)) : List (Nat × Nat) → Option (List DSh)
 | [] => some []
 | (t, _) :: r => match f t, dshFs f r with
  | some a, some b => some (a ++ b)
  | _, _ => none
def dshOf (tab : Tab) : Nat → Nat → Option (List DSh)
 | 0, _ => none
 | n + 1, t => match look tab t with
  | some e => match e.sh with
   | .int _ => some [.sc]
   | .bool => some [.sc]
   | .str => some [.sc]
   | .slice el => (dshOf tab n el).map fun ss => [.sl ss]
   | .struct fs => dshFs (dshOf tab n) fs
   | _ => none
  | none => none
def partX (T : List (Nat × LV)) : List (Nat × Operand) → Option (List LV)
 | [(0, x)] => cellsOf? (ev T x)
 | _ => none
theorem partX_get {T : List (Nat × LV)} {l : List (Nat × Operand)} {ks : List LV} (h : partX T l = some ks) : ∃ x, l = [(0, x)] ∧ cellsOf? (ev T x) = some ks := by
 unfold partX at h
 split at h
 ·exact ⟨_, rfl, h⟩
 ·cases h
theorem partX_congr {T T' : List (Nat × LV)} (l : List (Nat × Operand)) (h : ∀ p ∈ l, ev T' p.2 = ev T p.2) : partX T' l = partX T l := by
 unfold partX
 split
 ·rw [h _ (List.mem_singleton.2 rfl)]
 ·rfl
def deepZ (ss : Option (List DSh)) (ee : TE) : Option (List DSh × List Leaf) := match ss with
 | some ss => if ss.all DSh.isSc = true then none else if ss.length = ee.size then (match packL [] ss (ee.zero.map cellLV) with
  | some (zl, [], true) => some (ss, zl)
  | _ => none) else none
 | none => none
def focX (id lo len : Nat) : Option (Bool × Ob) → Option (Nat × List DSh × List Leaf × List LV)
 | some (_, .foc ss [r] p ks) => if lo = 0 ∧ len = 1 ∧ p = 0 then some (id, ss, r, ks) else none
 | _ => none
def focY (H : Heap) : LV → Option (Nat × List DSh × List Leaf × List LV)
 | .os id _ lo len _ _ => focX id lo len (H id)
 | _ => none
def appendF (tab : Tab) (s : St) (x : LV) (q : List DSh × List Leaf × List LV) (ee : TE) : Option Res :=
 if 0 < ee.bytes ∧ ee.zero.length = ee.size ∧ 0 < ee.size ∧ q.1.length = ee.size then (match x with
  | .nl => some ⟨ee.bytes ≤ 140737488355328, .os s.nx ee.size 0 1 1 false, (s.nx, some (true, .foc q.1 [q.2.1] 0 q.2.2)) :: s.H, s.nx + 1⟩
  | .os id es 0 len _ _ => match hp s.H id with
   | some (fr, .deep ss old) => if ee.size = es ∧ q.2.2.all flat = true then some ⟨ss = q.1 ∧ len = old.length ∧ (len + 1) * ee.bytes ≤ 140737488355328, .os s.nx es 0 (len + 1) (len + 1) false, (s.nx, some (fr, .foc ss (old ++ [q.2.1]) len q.2.2)) :: (id, none) :: s.H, s.nx + 1⟩ else none
   | _ => none
  | _ => none) else none
def appendE (tab : Tab) (s : St) (args : List Operand) (types : List Nat) : Option Res :=
 match args, types with
 | [x, y], [t, u] => match look tab t, look tab u with
  | some e, some e2 => match e.sh, e2.sh with
   | .slice el, .slice _ => match focY (hp s.H) (ev s.T y) with
    | some q => match look tab el with
     | some ee => appendF tab s (ev s.T x) q.2 ee
     | none => none
    | none => match look tab el, srcRows (hp s.H) (ev s.T y) with
    | some ee, some (tx, rows) =>
     if 0 < ee.bytes ∧ ee.zero.length = ee.size then match ev s.T x with
      | .nl => some ⟨(∀ r ∈ rows, r.length = ee.size) ∧ rows.length * ee.bytes ≤ 140737488355328, .os s.nx ee.size 0 rows.length rows.length false, (s.nx, some (true, .arr tx ee.size rows)) :: s.H, s.nx + 1⟩
      | .os id es lo len _ _ => match hp s.H id with
       | some (fr, .arr t1 es' old) => if ee.size = es ∧ es' = es then
        some ⟨lo + len ≤ old.length ∧ (∀ r ∈ rows, r.length = es) ∧ (len + rows.length) * ee.bytes ≤ 140737488355328, .os s.nx es 0 (len + rows.length) (roomA (ev s.T x) (ev s.T y) (len + rows.length)) false,
         (s.nx, some (fr, .arr (t1 || tx) es ((old.drop lo).take len ++ rows))) :: (id, none) :: s.H, s.nx + 1⟩ else none
       | _ => none
      | _ => none
     else none
    | _, _ => none
   | _, _ => none
  | _, _ => none
 | _, _ => none
def clearE (tab : Tab) (s : St) (args : List Operand) (types : List Nat) : Option Res :=
 match args, types with
 | [x], [t] => match look tab t with
  | some e => match e.sh with
   | .slice el => match look tab el, ev s.T x with
    | some ee, .os id es lo _ _ _ => match hp s.H id, leaves? (ee.zero.map cellLV) with
     | some (_, .arr _ es' old), some (false, _) => if ee.zero.length = ee.size ∧ ee.size = es ∧ es' = es then some ⟨old.length ≤ lo, .un, s.H, s.nx⟩ else none
     | _, _ => none
    | _, _ => none
   | _ => none
  | none => none
 | _, _ => none
def opE (P : Program) (tab : Tab) (s : St) (op : Op) : Option Res :=
 match op with
 | .alloc t => match look tab t with
  | some e => some ⟨True, .pb s.nx 0, (s.nx, some (true, .box (e.zero.map cellLV))) :: s.H, s.nx + 1⟩
  | none => none
 | .box _ x => match cellsOf? (ev s.T x) with
  | some ls => some ⟨True, .pb s.nx 0, (s.nx, some (true, .box ls)) :: s.H, s.nx + 1⟩
  | none => none
 | .load t x => match look tab t with
  | none => none
  | some e => if e.sh.known = true ∧ (e.sh.agg = true ∨ 0 < e.size) then (match ev s.T x with
   | .pb id off => match hp s.H id with
    | some (_, .box ls) => if off + e.size ≤ ls.length then some ⟨True, gath e.sh.agg ((ls.drop off).take e.size), s.H, s.nx⟩ else none
    | _ => none
   | .pe id es i off => match hp s.H id with
    | some (_, .arr tt es' rows) => if es' = es then some ⟨i < rows.length ∧ off + e.size ≤ (rows.getD i []).length, gath e.sh.agg ((((rows.getD i []).drop off).take e.size).map (mk tt)), s.H, s.nx⟩ else none
    | some (_, .deep ss rows) => if ss.length = es ∧ ((ss.drop off).take e.size).all DSh.isSc = true then some ⟨i < rows.length ∧ off + e.size ≤ (rows.getD i []).length, gath e.sh.agg ((((rows.getD i []).drop off).take e.size).map (mk false)), s.H, s.nx⟩ else none
    | some (_, .foc ss _ p ks) => if ss.length = es ∧ off + e.size ≤ ks.length then some ⟨i = p, gath e.sh.agg ((ks.drop off).take e.size), s.H, s.nx⟩ else none
    | _ => none
   | .ra tt ls => some ⟨e.size ≤ ls.length, gath e.sh.agg ((ls.take e.size).map (mk tt)), s.H, s.nx⟩
   | _ => none) else none
 | .store t x y => match look tab t, cellsOf? (ev s.T y) with
  | some e, some ks => if ks.length = e.size then (match ev s.T x with
   | .pb id off => match hp s.H id with
    | some (fr, .box ls) => if ks.all flat = true ∧ off + e.size ≤ ls.length then some ⟨True, .un, (id, some (fr, .box (put ls off ks))) :: s.H, s.nx⟩ else none
    | _ => none
   | .pe id es i off => match hp s.H id with
    | some (fr, .arr tt es' rows) => (match leaves? ks with
     | some (tu, ls) => if es' = es then some ⟨i < rows.length ∧ off + e.size ≤ (rows.getD i []).length, .un, (id, some (fr, .arr (tt || tu) es (rows.set i (put (rows.getD i []) off ls)))) :: s.H, s.nx⟩ else none
     | none => none)
    | some (fr, .deep ss rows) => if ss.length = es ∧ off = 0 ∧ e.size = ss.length ∧ ks.all flat = true then some ⟨i < rows.length, .un, (id, some (fr, .foc ss rows i ks)) :: s.H, s.nx⟩ else none
    | some (fr, .foc ss rows p ks0) => if ss.length = es ∧ ks.all flat = true ∧ off + e.size ≤ ks0.length then some ⟨i = p, .un, (id, some (fr, .foc ss rows p (put ks0 off ks))) :: s.H, s.nx⟩ else none
    | _ => none
   | _ => none) else none
  | _, _ => none
 | .makeSlice t x y => match look tab t, sc? (ev s.T x), sc? (ev s.T y) with
  | some e, some (.int _ n), some (.int _ n') => match e.sh with
   | .slice el => match look tab el with
    | some ee => match leaves? (ee.zero.map cellLV) with
     | some (false, zl) => if ee.zero.length = ee.size then (match deepZ (dshOf tab 9 el) ee with
      | some (ss, zl') => some ⟨n' = n ∧ 0 ≤ n ∧ n * ee.bytes ≤ 281474976710656 ∧ n ≤ 9223372036854775807, .os s.nx ee.size 0 n.toNat n.toNat true, (s.nx, some (true, .deep ss (List.replicate n.toNat zl'))) :: s.H, s.nx + 1⟩
      | none => some ⟨n' = n ∧ 0 ≤ n ∧ n * ee.bytes ≤ 281474976710656 ∧ n ≤ 9223372036854775807, .os s.nx ee.size 0 n.toNat n.toNat true, (s.nx, some (true, .arr false ee.size (List.replicate n.toNat zl))) :: s.H, s.nx + 1⟩) else none
     | _ => none
    | none => none
   | _ => none
  | _, _, _ => none
 | .buildSlice t len parts => match look tab t with
  | some e => match e.sh with
   | .slice el => match look tab el with
    | some ee => match partRows s.T ee.size parts.toList with
     | some (tt, rows) => if parts.toList.map (·.1) = List.range len ∧ len * ee.size ≤ 16777216 ∧ len ≤ 16777216 then some ⟨True, .os s.nx ee.size 0 len len true, (s.nx, some (true, .arr tt ee.size rows)) :: s.H, s.nx + 1⟩ else none
     | none => match partX s.T parts.toList, dshOf tab 9 el with
      | some ks, some ss => if len = 1 ∧ ks.length = ee.size ∧ ss.length = ee.size ∧ ee.size ≤ 16777216 then some ⟨True, .os s.nx ee.size 0 1 1 true, (s.nx, some (true, .foc ss [List.replicate ss.length (.sl [])] 0 ks)) :: s.H, s.nx + 1⟩ else none
      | _, _ => none
    | none => none
   | _ => none
  | none => none
 | .convert t u x => match look tab t with
  | some e => match e.sh with
   | .slice el => match look tab el, look tab u, srcRows (hp s.H) (ev s.T x) with
    | some ee, some f, some (_, rows) => match ee.sh, f.sh, bytesOf? rows with
     | .int .u8, .str, some ns => some ⟨True, .lf false (.sc (.string (bstr ns))), s.H, s.nx⟩
     | _, _, _ => none
    | _, _, _ => none
   | _ => (pureE P tab s.T (.convert t u x)).map fun p => ⟨p.1, p.2, s.H, s.nx⟩
  | none => none
 | .call c => match c.callee with
  | .builtin .append => appendE tab s c.args.toList c.argTypes.toList
  | .builtin .clear => clearE tab s c.args.toList c.argTypes.toList
  | _ => (pureE P tab s.T (.call c)).map fun p => ⟨p.1, p.2, s.H, s.nx⟩
 | op => (pureE P tab s.T op).map fun p => ⟨p.1, p.2, s.H, s.nx⟩
def nilB (tab : Tab) (T : List (Nat × LV)) : Op → Bool
 | .binOp op t x y _ => (match op with | .eql => true | .neq => true | _ => false) && (match y with | .const (.slice none 0 0) => true | _ => false) && (match look tab t with | some e => (match e.sh with | .slice _ => true | _ => false) | none => false) &&
   (match ev T x with | .nl => true | .os .. => true | .lf _ (.sl _) => true | _ => false)
 | _ => false
def nilCmp (tab : Tab) (T : List (Nat × LV)) : Op → Option (Bool × LV)
 | .binOp op t x y t' => if nilB tab T (.binOp op t x y t') = true then some ((match op with | .eql => true | _ => false), ev T x) else none
 | _ => none
def emptyLV : LV → Prop
 | .lf _ (.sl rows) => rows = []
 | .os _ _ _ len _ _ => len = 0
 | _ => True
def nilQ (isNil : Bool) (lv : LV) : Prop := isNil = true → emptyLV lv
def calls : Op → Option (Operand × Array Operand)
 | .call c => match c.callee with
  | .value f => some (f, c.args)
  | _ => none
 | _ => none
section
variable {P : Program} {s : St}
theorem binE_does {tab : Tab} (htab : TabOk P tab) {op : BinOp} {t t' : Nat} {x y : Operand} {p : Prop × LV} (h : binE P tab op t (ev s.T x) (ev s.T y) = some p) : Does P (.binOp op t x y t') s ⟨p.1, p.2, s.H, s.nx⟩ := by
 have tk : ∀ {t e}, look tab t = some e → OkT P t e := fun h => htab _ (look_mem h)
 unfold binE at h
 split at h
 ·rename_i p q hp hq
  split at h
  ·rename_i e he
   split at h
   ·rename_i hsh; cases h
    have := does_bool_eq (P := P) (s := s) (t' := t') (op := .eql) (tk he) hsh (.inl rfl) hp hq
    simpa using this
   ·rename_i hsh; cases h
    have := does_bool_eq (P := P) (s := s) (t' := t') (op := .neq) (tk he) hsh (.inr rfl) hp hq
    simpa using this
   ·cases h
  ·cases h
 ·rename_i p q hne hp hq
  split at h
  ·rename_i v hv; cases h; exact does_bin hp hq hv
  ·cases h
 ·split at h
  ·rename_i xs ys e hx hy he
   split at h
   ·rename_i fs hsh
    split at h
    ·rename_i b hb; cases h
     have := does_eqAg (s := s) (t' := t') (op := .eql) htab (tk he) hsh (.inl rfl) hx hy hb
     simpa using this
    ·rename_i b hb; cases h
     have := does_eqAg (s := s) (t' := t') (op := .neq) htab (tk he) hsh (.inr rfl) hx hy hb
     simpa using this
    ·cases h
   ·cases h
  ·cases h
theorem Does.weak {op : Op} {r : Res} {p : Prop} (h : Does P op s r) (hp : p → r.pre) : Does P op s ⟨p, r.v, r.H, r.nx⟩ := fun w0 W0 c a w hr hq => h w0 W0 c a w hr (hp hq)
theorem cutE_does {tab : Tab} (htab : TabOk P tab) {t : Nat} {x : Operand} {lo hi mx : Option Operand} {p : Prop × LV} (h : cutE tab s.T t x lo hi mx = some p) : Does P (.slice t x lo hi mx) s ⟨p.1, p.2, s.H, s.nx⟩ := by
 have tk : ∀ {t e}, look tab t = some e → OkT P t e := fun h => htab _ (look_mem h)
 unfold cutE at h
 split at h
 ·rename_i l hh m e hl hhi hm he
  split at h
  ·rename_i hsh
   split at h
   ·rename_i b hx
    cases h
    exact does_cut_str (tk he) hsh hx hl hhi
   ·cases h
  ·rename_i el hsh
   split at h
   ·rename_i ee hee
    split at h
    ·rename_i hc
     obtain ⟨c1, c2, c3⟩ := hc
     have h0 : lowOf l = 0 := by
      cases lo with
      | none => simp [bnd] at hl; subst hl; rfl
      | some _ => simp at c3
     have h1 : ∃ k, hh = some (k, 0) := by
      cases hh with
      | none => simp at c1
      | some q => obtain ⟨k, n⟩ := q; simp at c1; subst c1; exact ⟨k, rfl⟩
     have h2 : ∃ k, m = some (k, 0) := by
      cases m with
      | none => simp at c2
      | some q => obtain ⟨k, n⟩ := q; simp at c2; subst c2; exact ⟨k, rfl⟩
     split at h
     ·rename_i hx; cases h
      exact does_cut_none (tk he) hsh (tk hee) (by rw [hx]; rfl) hl hhi hm h0 h1 h2 (fun b => by rw [hx]; simp [sc?])
     ·rename_i hx; cases h
      exact does_cut_none (tk he) hsh (tk hee) (by rw [hx]; rfl) hl hhi hm h0 h1 h2 (fun b => by rw [hx]; simp [sc?])
     ·rename_i hx; cases h
      exact does_cut_none (tk he) hsh (tk hee) (by rw [hx]; rfl) hl hhi hm h0 h1 h2 (fun b => by rw [hx]; simp [sc?])
     ·cases h
    ·split at h
     ·rename_i tt rows hx
      split at h
      ·rename_i hmx
       cases h
       cases mx with
       | some _ => simp at hmx
       | none => exact does_cut_lf (tk he) hsh (tk hee) hx hl hhi
      ·cases h
     ·rename_i hx
      split at h
      ·rename_i hc; cases h; exact does_cut_os (tk he) hsh (tk hee) hc.1 hx hl hhi hm hc.2
      ·cases h
     ·rename_i hx
      split at h
      ·rename_i hc; cases h; exact does_cut_nl (tk he) hsh (tk hee) hx hl hhi hm hc
      ·cases h
     ·cases h
   ·cases h
  ·cases h
 ·cases h
theorem builtinE_does {tab : Tab} (htab : TabOk P tab) {b : Builtin} {c : Call} (hc : c.callee = .builtin b) {p : Prop × LV} (h : builtinE tab s.T b c.args.toList c.argTypes.toList = some p) : Does P (.call c) s ⟨p.1, p.2, s.H, s.nx⟩ := by
 have tk : ∀ {t e}, look tab t = some e → OkT P t e := fun h => htab _ (look_mem h)
 unfold builtinE at h
 split at h
 ·rename_i x t ha ht
  have ha' : c.args = #[x] := by rw [← Array.toArray_toList (xs := c.args), ha]
  have ht' : c.argTypes = #[t] := by rw [← Array.toArray_toList (xs := c.argTypes), ht]
  split at h
  ·rename_i e n he hn
   split at h
   ·rename_i b hsh hb
    cases h
    exact (does_len (tk he) (.inl hsh) hc ha' ht' hn).weak fun _ => ⟨fun _ => ⟨b, hb⟩, fun _ => hsh⟩
   ·rename_i el hsh hb
    cases h
    exact (does_len (tk he) (.inr ⟨el, hsh⟩) hc ha' ht' hn).weak fun _ => Iff.intro (fun h => by rw [hsh] at h; cases h) (fun h => by obtain ⟨b, hb'⟩ := h; rw [hb] at hb'; cases hb')
   ·cases h
  ·cases h
 ·rename_i x y ha
  have ha' : c.args = #[x, y] := by rw [← Array.toArray_toList (xs := c.args), ha]
  split at h
  ·rename_i k p q hx hy
   rename_i k2 _
   split at h
   ·rename_i n hn
    cases h
    exact does_mm hc ha' (by assumption) (by assumption) hn
   ·cases h
  ·cases h
 ·cases h
theorem pureE_does {tab : Tab} (htab : TabOk P tab) {op : Op} {p : Prop × LV} (h : pureE P tab s.T op = some p) : Does P op s ⟨p.1, p.2, s.H, s.nx⟩ := by
 have tk : ∀ {t e}, look tab t = some e → OkT P t e := fun h => htab _ (look_mem h)
 unfold pureE at h
 split at h
 ·cases h; exact does_move _
 ·cases h; exact does_assign _
 ·split at h
  ·rename_i hx; cases h; exact does_pick hx
  ·cases h
 ·exact binE_does htab h
 ·split at h
  ·rename_i hx; cases h; exact does_un hx
  ·cases h
 ·split at h
  ·rename_i hx
   split at h
   ·rename_i hj; cases h; exact does_extract hx hj
   ·cases h
  ·cases h
 ·split at h
  ·rename_i e hx
   split at h
   ·rename_i fs hsh
    split at h
    ·rename_i ft fo hf
     split at h
     ·rename_i et lv hx2 hm
      split at h
      ·rename_i h0; cases h; exact does_fieldAddr (tk hx) hsh hf (tk hx2) h0 hm
      ·cases h
     ·cases h
    ·cases h
   ·cases h
  ·cases h
 ·split at h
  ·rename_i hx; cases h; exact does_nilCheck hx
  ·cases h
 ·split at h
  ·rename_i e k n hx hy
   split at h
   ·rename_i el hsh
    split at h
    ·rename_i ee hx2
     split at h
     ·rename_i tt rows hx3
      cases h
      refine (does_indexAddr_lf (row := rows.getD n.toNat []) (tk hx) hsh (tk hx2) hx3 hy).weak fun ⟨h1, h2, h3⟩ => ⟨h1, ?_, h3⟩
      have : n.toNat < rows.length := by omega
      simp [this]
     ·split at h
      ·rename_i hx3 h1; cases h; exact does_indexAddr_os (tk hx) hsh (tk hx2) h1 hx3 hy
      ·cases h
     ·cases h
    ·cases h
   ·cases h
  ·cases h
 ·split at h
  ·rename_i e b k n hx hb hn
   split at h
   ·rename_i hsh; cases h; exact does_index (tk hx) hsh hb hn
   ·cases h
  ·cases h
 ·split at h
  ·rename_i e ls hx hl
   split at h
   ·rename_i fs hsh
    split at h
    ·rename_i ft fo hf
     split at h
     ·rename_i et he
      split at h
      ·rename_i hc
       cases h
       exact does_field (tk hx) hsh hf (tk he) hc.1 hl hc.2.1 fun hf => hc.2.2.elim (fun h => by rw [hf] at h; cases h) id
      ·cases h
     ·cases h
    ·cases h
   ·cases h
  ·cases h
 ·split at h
  ·split at h
   ·rename_i hf; cases h; subst hf; exact does_makeFunc
   ·cases h
  ·cases h
 ·split at h
  ·rename_i e f k n he hf hx
   split at h
   ·rename_i k' k2 h1 h2
    split at h
    ·rename_i hk; subst hk; cases h; exact does_convert_int (tk he) h1 (tk hf) h2 hx
    ·cases h
   ·cases h
  ·cases h
 ·exact cutE_does htab h
 ·split at h
  ·rename_i e he
   split at h
   ·rename_i fs hsh
    split at h
    ·rename_i ps hps
     split at h
     ·rename_i ls hls; cases h; exact does_build htab (tk he) hsh hps hls
     ·cases h
    ·cases h
   ·cases h
  ·cases h
 ·split at h
  ·rename_i b hc; exact builtinE_does htab hc h
  ·cases h
 ·cases h
theorem appendE_does {tab : Tab} (htab : TabOk P tab) {c : Call} (hc : c.callee = .builtin .append) {r : Res} (h : appendE tab s c.args.toList c.argTypes.toList = some r) : Does P (.call c) s r := by
 have tk : ∀ {t e}, look tab t = some e → OkT P t e := fun h => htab _ (look_mem h)
 unfold appendE at h
 split at h
 ·rename_i x y t u ha ht
  have ha' : c.args = #[x, y] := by rw [← Array.toArray_toList (xs := c.args), ha]
  have ht' : c.argTypes = #[t, u] := by rw [← Array.toArray_toList (xs := c.argTypes), ht]
  split at h
  ·rename_i e e2 he he2
   split at h
   ·rename_i el el2 hsh hsh2
    split at h
    ·rename_i q hq
     split at h
     ·rename_i ee hee
      obtain ⟨idy, ss, r0, ks⟩ := q
      have hfy : ∃ esy mcy exy fry, ev s.T y = .os idy esy 0 1 mcy exy ∧ hp s.H idy = some (fry, .foc ss [r0] 0 ks) := by
       unfold focY at hq
       split at hq
       ·rename_i id es lo len mc ex hy
        unfold focX at hq
        split at hq
        ·rename_i fr ss' r' p' ks' ho
         split at hq
         ·rename_i hc3
          obtain ⟨rfl, rfl, rfl⟩ := hc3
          cases hq
          exact ⟨_, _, _, _, hy, ho⟩
         ·cases hq
        ·cases hq
       ·cases hq
      obtain ⟨esy, mcy, exy, fry, hy, hoy⟩ := hfy
      unfold appendF at h
      split at h
      ·rename_i hb
       obtain ⟨hb1, hb2, hb3, hb4⟩ := hb
       split at h
       ·rename_i hx; cases h
        exact does_append_foc_nl hc ha' ht' (tk he) hsh (tk he2) hsh2 (tk hee) hb1 hb2 hb3 hb4 hx hy hoy
       ·rename_i id es len mc ex hx
        split at h
        ·rename_i fr ss2 old ho
         split at h
         ·rename_i hes
          cases h
          intro w0 W0 cx a w hr hp
          obtain ⟨h1, h2, h3⟩ := hp
          simp only at h1
          subst h1
          exact does_append_foc_os hc ha' ht' (tk he) hsh (tk he2) hsh2 (tk hee) hb1 hb2 hb3 hb4 hes.1 hes.2 hx ho h2 hy hoy w0 W0 cx a w hr h3
         ·cases h
        ·cases h
       ·cases h
      ·cases h
     ·cases h
    split at h
    ·rename_i ee tx rows hee hrows
     split at h
     ·rename_i hb
      split at h
      ·rename_i hx; cases h
       exact does_append_nl hc ha' ht' (tk he) hsh (tk he2) hsh2 (tk hee) hb.1 hb.2 hx hrows
      ·rename_i id es lo len mc ex hx
       split at h
       ·rename_i fr t1 es' old ho
        split at h
        ·rename_i hes
         obtain ⟨h1, h2⟩ := hes
         subst h2
         cases h
         intro w0 W0 cx a w hr hp
         refine does_append_os (room := roomA (ev s.T x) (ev s.T y) (len + rows.length)) hc ha' ht' (tk he) hsh (tk he2) hsh2 (tk hee) hb.1 hb.2 h1 hx ho hp.1 hrows ?_ w0 W0 cx a w hr hp.2
         rw [hx]
         cases ev s.T y with
         | os id' es' lo' len' mc' ex' =>
          show (if id = id' then max (len + rows.length) mc else len + rows.length) ≤ _
          split
          ·exact Nat.le_refl _
          ·exact Nat.le_max_left _ _
         | _ => exact Nat.le_max_left _ _
        ·cases h
       ·cases h
      ·cases h
     ·cases h
    ·cases h
   ·cases h
  ·cases h
 ·cases h
theorem clearE_does {tab : Tab} (htab : TabOk P tab) {c : Call} (hc : c.callee = .builtin .clear) {r : Res} (h : clearE tab s c.args.toList c.argTypes.toList = some r) : Does P (.call c) s r := by
 have tk : ∀ {t e}, look tab t = some e → OkT P t e := fun h => htab _ (look_mem h)
 unfold clearE at h
 split at h
 ·rename_i x t ha ht
  have ha' : c.args = #[x] := by rw [← Array.toArray_toList (xs := c.args), ha]
  have ht' : c.argTypes = #[t] := by rw [← Array.toArray_toList (xs := c.argTypes), ht]
  split at h
  ·rename_i e he
   split at h
   ·rename_i el hsh
    split at h
    ·rename_i ee id es lo len mc ex hee hx
     split at h
     ·rename_i fr t1 es' old zl ho hz
      split at h
      ·rename_i hb
       obtain ⟨h1, h2, h3⟩ := hb
       subst h3
       cases h
       exact does_clear hc ha' ht' (tk he) hsh (tk hee) h1 hz h2 hx ho
      ·cases h
     ·cases h
    ·cases h
   ·cases h
  ·cases h
 ·cases h
theorem opE_does {tab : Tab} (htab : TabOk P tab) {op : Op} {r : Res} (h : opE P tab s op = some r) : Does P op s r := by
 have tk : ∀ {t e}, look tab t = some e → OkT P t e := fun h => htab _ (look_mem h)
 have pur : (pureE P tab s.T op).map (fun p => (⟨p.1, p.2, s.H, s.nx⟩ : Res)) = some r → Does P op s r := fun h => by
  cases hp : pureE P tab s.T op with
  | none => rw [hp] at h; cases h
  | some p => rw [hp] at h; cases h; exact pureE_does htab hp
 unfold opE at h
 split at h
 ·split at h
  ·rename_i hx; cases h; exact does_alloc (tk hx)
  ·cases h
 ·split at h
  ·rename_i hx; cases h; exact does_box hx
  ·cases h
 ·split at h
  ·cases h
  ·rename_i e hx
   split at h
   ·rename_i h1
    have h0 : e.sh.agg = false → 0 < e.size := fun hf => h1.2.elim (fun h => by rw [hf] at h; cases h) id
    split at h
    ·rename_i id off hx2
     split at h
     ·rename_i fr ls hob
      split at h
      ·rename_i h2; cases h; exact does_load_pb (tk hx) h1.1 hx2 hob h2 h0
      ·cases h
     ·cases h
    ·rename_i id es i off hx2
     split at h
     ·rename_i fr tt es' rows hob
      split at h
      ·rename_i hes
       subst hes
       cases h
       refine (does_load_pe (row := rows.getD i []) (tk hx) h1.1 hx2 hob h0).weak fun hp => ⟨?_, hp.2⟩
       have := hp.1
       simp [this]
      ·cases h
     ·rename_i fr ss rows hob
      split at h
      ·rename_i hes
       cases h
       refine (does_load_deep (row := rows.getD i []) (tk hx) h1.1 hx2 hob hes.1 hes.2 h0).weak fun hp => ⟨?_, hp.2⟩
       have := hp.1
       simp [this]
      ·cases h
     ·rename_i fr ss rows p ks hob
      split at h
      ·rename_i hes; cases h; exact does_load_foc (tk hx) h1.1 hx2 hob hes.1 hes.2 h0
      ·cases h
     ·cases h
    ·rename_i tt ls hx2
     cases h
     intro w0 W0 cx a w hr hp
     exact does_load_ra (tk hx) h1.1 hx2 hp h0 w0 W0 cx a w hr trivial
    ·cases h
   ·cases h
 ·split at h
  ·rename_i e ks hx hks
   split at h
   ·rename_i h1
    split at h
    ·rename_i id off hx2
     split at h
     ·rename_i fr ls hob
      split at h
      ·rename_i h2; cases h; exact does_store_pb (tk hx) hx2 hob hks h2.1 h1 h2.2
      ·cases h
     ·cases h
    ·rename_i id es i off hx2
     split at h
     ·rename_i fr tt es' rows hob
      split at h
      ·rename_i tu ls hls
       split at h
       ·rename_i hes
        subst hes
        cases h
        refine (does_store_pe (row := rows.getD i []) (tk hx) hx2 hob hks hls h1).weak fun hp => ⟨?_, hp.2⟩
        have := hp.1
        simp [this]
       ·cases h
      ·cases h
     ·rename_i fr ss rows hob
      split at h
      ·rename_i hes
       obtain ⟨hes, rfl, hsz, hfl⟩ := hes
       cases h
       have hput : put ks 0 ks = ks := by simp [put]
       have := does_store_foc (ks0 := ks) (tk hx) hx2 hob (.inl ⟨rfl, rfl, hsz, rfl⟩) hes hks hfl h1 (by omega)
       rw [hput] at this
       exact this.weak fun hp => ⟨fun _ => hp, fun p hp => by cases hp⟩
      ·cases h
     ·rename_i fr ss rows p ks0 hob
      split at h
      ·rename_i hes
       cases h
       intro w0 W0 cx a w hr hp
       have hp : i = p := hp
       have := does_store_foc (ks0 := ks0) (tk hx) hx2 hob (.inr ⟨p, rfl⟩) hes.1 hks hes.2.1 h1 hes.2.2 w0 W0 cx a w hr ⟨fun h => (by cases h), fun p' h => (by cases h; exact hp)⟩
       rw [hp] at this
       exact this
      ·cases h
     ·cases h
    ·cases h
   ·cases h
  ·cases h
 ·split at h
  ·rename_i e k1 n k2 n' he hx hy
   split at h
   ·rename_i el hsh
    split at h
    ·rename_i ee hee
     split at h
     ·rename_i zl hz
      split at h
      ·rename_i hzs
       split at h
       ·rename_i ss zl' hdz
        cases h
        intro w0 W0 cx a w hr hp
        obtain ⟨rfl, hp⟩ := hp
        have hdz2 : ss.length = ee.size ∧ packL [] ss (ee.zero.map cellLV) = some (zl', [], true) := by
         unfold deepZ at hdz
         split at hdz
         ·split at hdz
          ·cases hdz
          ·split at hdz
           ·split at hdz
            ·rename_i h3 _ _ h4; cases hdz; exact ⟨h3, h4⟩
            ·cases hdz
           ·cases hdz
         ·cases hdz
        exact does_make_deep (tk he) hsh (tk hee) hzs hdz2.1 hdz2.2 hx hy w0 W0 cx a w hr hp
       ·cases h
        intro w0 W0 cx a w hr hp
        obtain ⟨rfl, hp⟩ := hp
        exact does_make (tk he) hsh (tk hee) hzs hz hx hy w0 W0 cx a w hr hp
      ·cases h
     ·cases h
    ·cases h
   ·cases h
  ·cases h
 ·split at h
  ·rename_i e he
   split at h
   ·rename_i el hsh
    split at h
    ·rename_i ee hee
     split at h
     ·rename_i tt rows hp
      split at h
      ·rename_i hc; cases h; exact does_buildSlice (tk he) hsh (tk hee) hp hc.1 hc.2
      ·cases h
     ·split at h
      ·rename_i ks ss hpx hds
       obtain ⟨x, hp1, hks⟩ := partX_get hpx
       split at h
       ·rename_i hc
        obtain ⟨rfl, h1, h2, h3⟩ := hc
        cases h
        exact does_buildFoc (tk he) hsh (tk hee) hp1 hks h1 h2 (by simp) h3
       ·cases h
      ·cases h
    ·cases h
   ·cases h
  ·cases h
 ·split at h
  ·rename_i e he
   split at h
   ·rename_i el hsh
    split at h
    ·rename_i ee f tt rows hee hf hx
     split at h
     ·rename_i ns h1 h2 hns; cases h
      exact does_bytesStr (tk he) hsh (tk hee) h1 (tk hf) h2 hx hns
     ·cases h
    ·cases h
   ·exact pur h
  ·cases h
 ·split at h
  ·rename_i hc; exact appendE_does htab hc h
  ·rename_i hc; exact clearE_does htab hc h
  ·exact pur h
 ·exact pur h
end
def bySc (lv : LV) (K : Bool → Prop) : Prop := match sc? lv with
 | some (.bool b) => K b
 | _ => False
theorem bySc_of {lv : LV} {K : Bool → Prop} (h : bySc lv K) : ∃ b, sc? lv = some (.bool b) ∧ K b := by
 unfold bySc at h
 split at h
 ·exact ⟨_, by assumption, h⟩
 ·exact h.elim
def plain (x : Option Res) (n : Option (Bool × LV)) (s : St) (K : LV → HL → Nat → Prop) : Prop := match x with
 | some r => r.pre ∧ K r.v r.H r.nx
 | none => ∃ (e : Bool) (lv : LV), n = some (e, lv) ∧ ∀ b : Bool, nilQ (b == e) lv → K (.lf false (.sc (.bool b))) s.H s.nx
def callF (P : Program) (s : St) (f : LV) (args : List LV) (K : LV → HL → Nat → Prop) : Prop := match f with
 | .fn g caps => Ent P g ∧ CallW P s g (args ++ caps) K
 | _ => False
def opW (P : Program) (tab : Tab) (s : St) (op : Op) (K : LV → HL → Nat → Prop) : Prop :=
 match calls op with
 | some (f, args) => callF P s (ev s.T f) (args.toList.map (ev s.T)) K
 | none => plain (opE P tab s op) (nilCmp tab s.T op) s K
def St.put (s : St) (dst : Option Nat) (lv : LV) (H : HL) (nx : Nat) : St :=
 ⟨match dst with | some d => (d, lv) :: s.T | none => s.T, H, nx, s.nt⟩
def okDst (s : St) : Option Nat → Bool
 | some d => decide (d < s.nt)
 | none => true
def stepW (P : Program) (tab : Tab) (s : St) (o : Oper) (K : St → Prop) : Prop :=
 okDst s o.dst = true ∧ opW P tab s o.op fun lv H nx => K (s.put o.dst lv H nx)
theorem rel_put {w0 : World} {W0 : Fr} {c c' : Ctx} {s : St} {a : Act} {w w' : World} (hr : Rel w0 W0 c s a w) (hle : c.Le c') {H : HL} {nx : Nat} (hnx : c'.nx = nx) (hsit : Sit w0 W0 c' (hp H) w') (hsame : Same c w w')
  {dst : Option Nat} (hd : okDst s dst = true) {lv : LV} {v : Value} (hv : Cv w' c' lv v) : Rel w0 W0 c' (s.put dst lv H nx) (a.put dst v) w' := by
 refine ⟨hsit, hnx, fun i => ?_, ?_, ?_⟩
 ·cases dst with
  | none => exact (hr.tmp i).mono hle hsame
  | some d =>
   have hd' : d < a.tmps.size := by rw [hr.sz]; simpa [okDst] using hd
   show Cv w' c' (tv ((d, lv) :: s.T) i) ((a.tmps.setIfInBounds d v).getD i undef)
   unfold tv
   simp only [look]
   by_cases e : i = d
   ·subst e
    rw [if_pos rfl]
    simpa [hd'] using hv
   ·rw [if_neg e]
    have := (hr.tmp i).mono hle hsame
    unfold tv at this
    have he : (a.tmps.setIfInBounds d v).getD i undef = a.tmps.getD i undef := by
     simp only [Array.getD_eq_getD_getElem?, Array.getElem?_setIfInBounds]
     rw [if_neg (Ne.symm e)]
    rw [he]
    exact this
 ·cases dst with
  | none => exact hr.sz
  | some d => simpa [Act.put, St.put] using hr.sz
 ·cases dst <;> exact hr.df
end Go.TL

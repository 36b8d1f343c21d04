import Derived.Test.YteonagfnhdlfcaaGreatDoorTlFun
set_option linter.unusedSimpArgs false
set_option linter.unusedVariables false
noncomputable section
namespace Go.TL.S
open Go Go.TL
section
variable (P:Program) (tab:Tab) (s:St)
theorem o_move (x:Operand):opE P tab s (.move x)=some ⟨True,ev s.T x,s.H,s.nx⟩:=rfl
theorem o_assign (x:Operand):opE P tab s (.assign x)=some ⟨True,ev s.T x,s.H,s.nx⟩:=rfl
def znZ (s:St) (x:Option (Prop×LV)):Option Res:=match x with
 | some (p,v)=>some ⟨p,v,s.H,s.nx⟩
 | none=>none
theorem lift_some (p:Prop) (v:LV):znZ s (some (p,v))=some ⟨p,v,s.H,s.nx⟩:=rfl
theorem lift_none:znZ s none=none:=rfl
theorem zlP (x:Option (Prop×LV)):(x.map λ p=>(⟨p.1,p.2,s.H,s.nx⟩:Res))=znZ s x:=by cases x<;>rfl
def lif (x:Option LV):Option (Prop×LV):=match x with
 | some v=>some (True,v)
 | none=>none
theorem lif_some (v:LV):lif (some v)=some (True,v):=rfl
theorem lif_none:lif none=none:=rfl
theorem o_pick (c a b:Operand):opE P tab s (.pick c a b)=znZ s (lif (zrB (ev s.T a) (ev s.T b) (ev s.T c))):=zlP s _
theorem o_bin (op:BinOp) (t:Nat) (x y:Operand) (t':Nat):opE P tab s (.binOp op t x y t')=znZ s (zyB P tab op t (ev s.T x) (ev s.T y)):=zlP s _
theorem o_un (op:UnOp) (t:Nat) (x:Operand):opE P tab s (.unOp op t x)=znZ s (lif (zxk op (ev s.T x))):=zlP s _
def exE (lv:LV) (j:Nat):Option (Prop×LV):=match lv with
 | .tu ls=>if j < ls.length then some (True,ls.getD j .un) else none
 | _=>none
theorem exE_tu (ls:List LV) (j:Nat):exE (.tu ls) j=if j < ls.length then some (True,ls.getD j .un) else none:=rfl
theorem o_ex (x:Operand) (j:Nat):opE P tab s (.extract x j)=znZ s (exE (ev s.T x) j):=zlP s _
theorem o_nil (x:Operand):opE P tab s (.nilCheck x)=znZ s (match zoJ (ev s.T x) 0 with | some _=>some (True,ev s.T x) | none=>none):=zlP s _
theorem o_fa (t:Nat) (x:Operand) (f:Nat):opE P tab s (.fieldAddr t x f)=znZ s (match zkm tab t with
  | some e=>match e.sh with
   | .struct fs=>match fs[f]? with
    | some (ft,fo)=>match zkm tab ft,zoJ (ev s.T x) fo with
     | some et,some lv=>if et.size≠0 then some (True,lv) else none
     | _,_=>none
    | none=>none
   | _=>none
  | none=>none):=zlP s _
theorem o_ia (t:Nat) (x y:Operand):opE P tab s (.indexAddr t x y)=znZ s (match zkm tab t,sc? (ev s.T y) with
  | some e,some (.int _ n)=>match e.sh with
   | .slice el=>match zkm tab el with
    | some ee=>match ev s.T x with
     | .lf tt (.sl rows)=>some (0≤n∧n < rows.length∧(rows.getD n.toNat []).length=ee.size,.ra tt (rows.getD n.toNat []))
     | .os id es lo len _ _=>if ee.size=es then some (0≤n∧n < len,.pe id es (lo+n.toNat) 0) else none
     | _=>none
    | none=>none
   | _=>none
  | _,_=>none):=zlP s _
theorem o_ix (t:Nat) (x y:Operand):opE P tab s (.index t x y)=znZ s (match zkm tab t,sc? (ev s.T x),sc? (ev s.T y) with
  | some e,some (.string b),some (.int _ n)=>match e.sh with
   | .str=>some (0≤n∧n < b.size,.lf false (.sc (.int .u8 (bt b n))))
   | _=>none
  | _,_,_=>none):=zlP s _
theorem o_field (t:Nat) (x:Operand) (f:Nat):opE P tab s (.field t x f)=znZ s (match zkm tab t,ev s.T x with
  | some e,.ag ls=>match e.sh with
   | .struct fs=>match fs[f]? with
    | some (ft,fo)=>match zkm tab ft with
     | some et=>if et.sh.known=true∧fo+et.size≤ls.length∧(et.sh.agg=true∨0 < et.size) then some (True,znm et.sh.agg ((ls.drop fo).take et.size)) else none
     | none=>none
    | none=>none
   | _=>none
  | _,_=>none):=zlP s _
theorem o_mf (f:FuncId) (caps:Array Operand):opE P tab s (.makeFunc (.func f) #[] caps)=some ⟨True,.fn f (caps.toList.map (ev s.T)),s.H,s.nx⟩:=rfl
theorem o_conv (t u:Nat) (x:Operand):opE P tab s (.convert t u x)=(match zkm tab t with
  | some e=>match e.sh with
   | .slice el=>match zkm tab el,zkm tab u,zlR (hp s.H) (ev s.T x) with
    | some ee,some f,some (_,rows)=>match ee.sh,f.sh,znp rows with
     | .int .u8,.str,some ns=>some ⟨True,.lf false (.sc (.string (zvK ns))),s.H,s.nx⟩
     | _,_,_=>none
    | _,_,_=>none
   | _=>znZ s (match zkm tab t,zkm tab u,sc? (ev s.T x) with
    | some e,some f,some (.int k n)=>match e.sh,f.sh with
     | .int k',.int k2=>if k=k' then some (True,.lf false (.sc (.int k2 (k2.wrap n)))) else none
     | _,_=>none
    | _,_,_=>none)
  | none=>none):=by
 simp only [opE,zlP,zmZ]
 cases zkm tab t with
 | none=>rfl
 | some e=>cases e.sh<;>rfl
theorem zwL (t:Nat) (x:Operand) (lo hi mx:Option Operand):opE P tab s (.slice t x lo hi mx)=znZ s (zvS tab s.T t x lo hi mx):=zlP s _
theorem o_build (t:Nat) (parts:Array (Nat×Operand)):opE P tab s (.build t parts)=znZ s (match zkm tab t with
  | some e=>match e.sh with
   | .struct fs=>match zpB tab fs with
    | some ps=>match zlX s.T ps (e.zero.map zlg) parts.toList with
     | some ls=>some (True,.ag ls)
     | none=>none
    | none=>none
   | _=>none
  | none=>none):=zlP s _
theorem zB9 (c:Call) (x:Operand) (t:Nat) (hc:c.callee=.builtin .len) (ha:c.args=#[x]) (ht:c.argTypes=#[t]):opE P tab s (.call c)=znZ s (match zkm tab t,zoO (ev s.T x) with
  | some e,some n=>match e.sh,sc? (ev s.T x) with
   | .str,some (.string _)=>some (True,.lf false (.sc (.int .i64 n)))
   | .slice _,none=>some (True,.lf false (.sc (.int .i64 n)))
   | _,_=>none
  | _,_=>none):=by
 simp only [opE,zmZ,hc,ha,ht,zlP]
 rfl
theorem zyQ (c:Call) (hc:c.callee=.builtin .append):opE P tab s (.call c)=zmU tab s c.args.toList c.argTypes.toList:=by
 simp only [opE,hc]
theorem o_lenL (x:Operand) (t:Nat):opE P tab s (.call { callee:=.builtin .len,args:=#[x],argTypes:=#[t] })=znZ s (match zkm tab t,zoO (ev s.T x) with
  | some e,some n=>match e.sh,sc? (ev s.T x) with
   | .str,some (.string _)=>some (True,.lf false (.sc (.int .i64 n)))
   | .slice _,none=>some (True,.lf false (.sc (.int .i64 n)))
   | _,_=>none
  | _,_=>none):=zB9 P tab s _ x t rfl rfl rfl
theorem o_appL (args:Array Operand) (ts:Array Nat):opE P tab s (.call { callee:=.builtin .append,args:=args,argTypes:=ts })=zmU tab s args.toList ts.toList:=zyQ P tab s _ rfl
theorem o_clrL (args:Array Operand) (ts:Array Nat):opE P tab s (.call { callee:=.builtin .clear,args:=args,argTypes:=ts })=zoU tab s args.toList ts.toList:=rfl
theorem o_alloc (t:Nat):opE P tab s (.alloc t)=(match zkm tab t with
  | some e=>some ⟨True,.pb s.nx 0,(s.nx,some (true,.box (e.zero.map zlg))) :: s.H,s.nx+1⟩
  | none=>none):=rfl
theorem o_box (t:Nat) (x:Operand):opE P tab s (.box t x)=(match zlh (ev s.T x) with
  | some ls=>some ⟨True,.pb s.nx 0,(s.nx,some (true,.box ls)) :: s.H,s.nx+1⟩
  | none=>none):=rfl
theorem o_load (t:Nat) (x:Operand):opE P tab s (.load t x)=(match zkm tab t with
  | none=>none
  | some e=>if e.sh.known=true∧(e.sh.agg=true∨0 < e.size) then (match ev s.T x with
   | .pb id off=>match hp s.H id with
    | some (_,.box ls)=>if off+e.size≤ls.length then some ⟨True,znm e.sh.agg ((ls.drop off).take e.size),s.H,s.nx⟩ else none
    | _=>none
   | .pe id es i off=>match hp s.H id with
    | some (_,.arr tt es' rows)=>if es'=es then some ⟨i < rows.length∧off+e.size≤(rows.getD i []).length,znm e.sh.agg ((((rows.getD i []).drop off).take e.size).map (mk tt)),s.H,s.nx⟩ else none
    | some (_,.deep ss rows)=>if ss.length=es∧((ss.drop off).take e.size).all DSh.isSc=true then some ⟨i < rows.length∧off+e.size≤(rows.getD i []).length,znm e.sh.agg ((((rows.getD i []).drop off).take e.size).map (mk false)),s.H,s.nx⟩ else none
    | some (_,.foc ss _ p ks)=>if ss.length=es∧off+e.size≤ks.length then some ⟨i=p,znm e.sh.agg ((ks.drop off).take e.size),s.H,s.nx⟩ else none
    | _=>none
   | .ra tt ls=>some ⟨e.size≤ls.length,znm e.sh.agg ((ls.take e.size).map (mk tt)),s.H,s.nx⟩
   | _=>none) else none):=rfl
theorem o_store (t:Nat) (x y:Operand):opE P tab s (.store t x y)=(match zkm tab t,zlh (ev s.T y) with
  | some e,some ks=>if ks.length=e.size then (match ev s.T x with
   | .pb id off=>match hp s.H id with
    | some (fr,.box ls)=>if ks.all flat=true∧off+e.size≤ls.length then some ⟨True,.un,(id,some (fr,.box (put ls off ks))) :: s.H,s.nx⟩ else none
    | _=>none
   | .pe id es i off=>match hp s.H id with
    | some (fr,.arr tt es' rows)=>(match zlG ks with
     | some (tu,ls)=>if es'=es then some ⟨i < rows.length∧off+e.size≤(rows.getD i []).length,.un,(id,some (fr,.arr (tt || tu) es (rows.set i (put (rows.getD i []) off ls)))) :: s.H,s.nx⟩ else none
     | none=>none)
    | some (fr,.deep ss rows)=>if ss.length=es∧off=0∧e.size=ss.length∧ks.all flat=true then some ⟨i < rows.length,.un,(id,some (fr,.foc ss rows i ks)) :: s.H,s.nx⟩ else none
    | some (fr,.foc ss rows p ks0)=>if ss.length=es∧ks.all flat=true∧off+e.size≤ks0.length then some ⟨i=p,.un,(id,some (fr,.foc ss rows p (put ks0 off ks))) :: s.H,s.nx⟩ else none
    | _=>none
   | _=>none) else none
  | _,_=>none):=rfl
theorem o_mks (t:Nat) (x y:Operand):opE P tab s (.makeSlice t x y)=(match zkm tab t,sc? (ev s.T x),sc? (ev s.T y) with
  | some e,some (.int _ n),some (.int _ n')=>match e.sh with
   | .slice el=>match zkm tab el with
    | some ee=>match zlG (ee.zero.map zlg) with
     | some (false,zl)=>if ee.zero.length=ee.size then (match zsZ (zlw tab 9 el) ee with
      | some (ss,zl')=>some ⟨n'=n∧0≤n∧n * ee.bytes≤281474976710656∧n≤9223372036854775807,.os s.nx ee.size 0 n.toNat n.toNat true,(s.nx,some (true,.deep ss (List.replicate n.toNat zl'))) :: s.H,s.nx+1⟩
      | none=>some ⟨n'=n∧0≤n∧n * ee.bytes≤281474976710656∧n≤9223372036854775807,.os s.nx ee.size 0 n.toNat n.toNat true,(s.nx,some (true,.arr false ee.size (List.replicate n.toNat zl))) :: s.H,s.nx+1⟩) else none
     | _=>none
    | none=>none
   | _=>none
  | _,_,_=>none):=rfl
theorem o_bsl (t len:Nat) (parts:Array (Nat×Operand)):opE P tab s (.buildSlice t len parts)=(match zkm tab t with
  | some e=>match e.sh with
   | .slice el=>match zkm tab el with
    | some ee=>match zmG (zlw tab 9 el) s.T ee.size parts.toList with
     | some (ss,rows)=>if parts.toList.map (·.1)=List.range len∧len * ee.size≤16777216∧len≤16777216 then some ⟨True,.os s.nx ee.size 0 len len true,(s.nx,some (true,.deep ss rows)) :: s.H,s.nx+1⟩ else none
     | none=>match zlN s.T ee.size parts.toList with
     | some (tt,rows)=>if parts.toList.map (·.1)=List.range len∧len * ee.size≤16777216∧len≤16777216 then some ⟨True,.os s.nx ee.size 0 len len true,(s.nx,some (true,.arr tt ee.size rows)) :: s.H,s.nx+1⟩ else none
     | none=>match zpv s.T parts.toList,zlw tab 9 el with
      | some ks,some ss=>if len=1∧ks.length=ee.size∧ss.length=ee.size∧ee.size≤16777216 then some ⟨True,.os s.nx ee.size 0 1 1 true,(s.nx,some (true,.foc ss [List.replicate ss.length (.sl [])] 0 ks)) :: s.H,s.nx+1⟩ else none
      | _,_=>none
    | none=>none
   | _=>none
  | none=>none):=rfl
theorem sc_k (t:Bool) (v:Value):sc? (.lf t (.sc v))=some v:=rfl
theorem sc_sl (t:Bool) (r:List (List Leaf)):sc? (.lf t (.sl r))=none:=rfl
theorem sc_nl:sc? .nl=none:=rfl
theorem sc_os (id es lo len mc:Nat) (ex:Bool):sc? (.os id es lo len mc ex)=none:=rfl
theorem sc_ag (ls:List LV):sc? (.ag ls)=none:=rfl
theorem sc_un:sc? .un=none:=rfl
theorem len_str (t:Bool) (b:ByteArray):zoO (.lf t (.sc (.string b)))=some (b.size:Int):=rfl
theorem len_sl (t:Bool) (r:List (List Leaf)):zoO (.lf t (.sl r))=some (r.length:Int):=rfl
theorem len_nl:zoO .nl=some 0:=rfl
theorem len_os (id es lo len mc:Nat) (ex:Bool):zoO (.os id es lo len mc ex)=some (len:Int):=rfl
theorem mv_pb (id off k:Nat):zoJ (.pb id off) k=some (.pb id (off+k)):=rfl
theorem mv_pe (id es i off k:Nat):zoJ (.pe id es i off) k=some (.pe id es i (off+k)):=rfl
theorem mv_ra (t:Bool) (ls:List Leaf) (k:Nat):zoJ (.ra t ls) k=some (.ra t (ls.drop k)):=rfl
theorem c_int (k:IntKind) (n:Int):znB (.int k n)=.lf false (.sc (.int k n)):=rfl
theorem c_bool (b:Bool):znB (.bool b)=.lf false (.sc (.bool b)):=rfl
theorem c_str (b:ByteArray):znB (.string b)=.lf false (.sc (.string b)):=rfl
theorem c_nil:znB (.slice none 0 0)=.nl:=rfl
theorem k_int (k:IntKind) (n:Int):zlg (.int k n)=.lf false (.sc (.int k n)):=rfl
theorem k_bool (b:Bool):zlg (.bool b)=.lf false (.sc (.bool b)):=rfl
theorem k_str (b:ByteArray):zlg (.string b)=.lf false (.sc (.string b)):=rfl
theorem k_nil:zlg (.slice none 0 0)=.nl:=rfl
theorem mk_sc (t:Bool) (v:Value):mk t (.sc v)=.lf false (.sc v):=rfl
theorem mk_sl (t:Bool) (r:List (List Leaf)):mk t (.sl r)=.lf t (.sl r):=rfl
theorem g_ag (ls:List LV):znm true ls=.ag ls:=rfl
theorem g_one (l:LV) (ls:List LV):znm false (l :: ls)=l:=rfl
theorem e_tmp (T:List (Nat×LV)) (t:Nat):ev T (.tmp t)=tv T t:=rfl
theorem e_const (T:List (Nat×LV)) (v:Value):ev T (.const v)=znB v:=rfl
theorem e_func (T:List (Nat×LV)) (f:FuncId):ev T (.func f)=.fn f []:=rfl
theorem tv_nil (t:Nat):tv [] t=.un:=rfl
theorem tv_cons (T:List (Nat×LV)) (k:Nat) (v:LV) (t:Nat):tv ((k,v) :: T) t=if t=k then v else tv T t:=by
 unfold tv;simp only [zkm];split<;>rfl
theorem hp_nil (t:Nat):hp [] t=none:=rfl
theorem hp_cons' (H:HL) (k:Nat) (v:Option (Bool×Ob)) (t:Nat):hp ((k,v) :: H) t=if t=k then v else hp H t:=by
 unfold hp;simp only [zkm];split<;>rfl
theorem b_add (k:IntKind) (a b:Int):bin .add (.int k a) (.int k b)=some (.int k (k.wrap (a+b))):=by simp [bin]
theorem b_sub (k:IntKind) (a b:Int):bin .sub (.int k a) (.int k b)=some (.int k (k.wrap (a - b))):=by simp [bin]
theorem b_mul (k:IntKind) (a b:Int):bin .mul (.int k a) (.int k b)=some (.int k (k.wrap (a * b))):=by simp [bin]
theorem b_quo (k:IntKind) (a b:Int):bin .quo (.int k a) (.int k b)=some (.int k (k.wrap (a.tdiv b))):=by simp [bin]
theorem b_rem (k:IntKind) (a b:Int):bin .rem (.int k a) (.int k b)=some (.int k (a.tmod b)):=by simp [bin]
theorem b_eql (k:IntKind) (a b:Int):bin .eql (.int k a) (.int k b)=some (.bool (decide (a=b))):=by simp [bin];rfl
theorem b_neq (k:IntKind) (a b:Int):bin .neq (.int k a) (.int k b)=some (.bool (!decide (a=b))):=by simp [bin];rfl
theorem b_lss (k:IntKind) (a b:Int):bin .lss (.int k a) (.int k b)=some (.bool (decide (a < b))):=by simp [bin]
theorem b_leq (k:IntKind) (a b:Int):bin .leq (.int k a) (.int k b)=some (.bool (decide (a≤b))):=by simp [bin]
theorem b_gtr (k:IntKind) (a b:Int):bin .gtr (.int k a) (.int k b)=some (.bool (decide (b < a))):=by simp [bin]
theorem b_geq (k:IntKind) (a b:Int):bin .geq (.int k a) (.int k b)=some (.bool (decide (b≤a))):=by simp [bin]
theorem b_sadd (a b:ByteArray):bin .add (.string a) (.string b)=some (.string (a++b)):=rfl
theorem b_seql (a b:ByteArray):bin .eql (.string a) (.string b)=some (.bool (a.toList == b.toList)):=rfl
theorem b_sneq (a b:ByteArray):bin .neq (.string a) (.string b)=some (.bool (!(a.toList == b.toList))):=rfl
theorem p_add (k:IntKind) (a b:Int):znd .add (.int k a) (.int k b)=True:=rfl
theorem p_sub (k:IntKind) (a b:Int):znd .sub (.int k a) (.int k b)=True:=rfl
theorem p_mul (k:IntKind) (a b:Int):znd .mul (.int k a) (.int k b)=True:=rfl
theorem p_quo (k:IntKind) (a b:Int):znd .quo (.int k a) (.int k b)=(b≠0):=rfl
theorem p_rem (k:IntKind) (a b:Int):znd .rem (.int k a) (.int k b)=(b≠0):=rfl
theorem p_and (k:IntKind) (a b:Int):znd .and (.int k a) (.int k b)=True:=rfl
theorem p_shr (k k':IntKind) (a b:Int):znd .shr (.int k a) (.int k' b)=(0≤b):=rfl
theorem p_eql (k:IntKind) (a b:Int):znd .eql (.int k a) (.int k b)=True:=rfl
theorem p_neq (k:IntKind) (a b:Int):znd .neq (.int k a) (.int k b)=True:=rfl
theorem p_lss (k:IntKind) (a b:Int):znd .lss (.int k a) (.int k b)=True:=rfl
theorem p_leq (k:IntKind) (a b:Int):znd .leq (.int k a) (.int k b)=True:=rfl
theorem p_gtr (k:IntKind) (a b:Int):znd .gtr (.int k a) (.int k b)=True:=rfl
theorem p_geq (k:IntKind) (a b:Int):znd .geq (.int k a) (.int k b)=True:=rfl
theorem p_sadd (a b:ByteArray):znd .add (.string a) (.string b)=(a.size+b.size≤9223372036854775807):=rfl
theorem p_seql (a b:ByteArray):znd .eql (.string a) (.string b)=True:=rfl
theorem p_sneq (a b:ByteArray):znd .neq (.string a) (.string b)=True:=rfl
theorem u_not (t:Bool) (b:Bool):zxk .not (.lf t (.sc (.bool b)))=some (.lf false (.sc (.bool !b))):=rfl
theorem u_neg (t:Bool) (k:IntKind) (n:Int):zxk .neg (.lf t (.sc (.int k n)))=some (.lf false (.sc (.int k (k.wrap (0 - n))))):=rfl
theorem sh_agg (fs:List (Nat×Nat)):(Sh.struct fs).agg=true:=rfl
theorem sh_agg_int (k:IntKind):(Sh.int k).agg=false:=rfl
theorem sh_agg_bool:Sh.bool.agg=false:=rfl
theorem sh_agg_str:Sh.str.agg=false:=rfl
theorem sh_agg_sl (e:Nat):(Sh.slice e).agg=false:=rfl
theorem sh_agg_fl:Sh.flat.agg=false:=rfl
theorem sh_k (fs:List (Nat×Nat)):(Sh.struct fs).known=true:=rfl
theorem sh_k_int (k:IntKind):(Sh.int k).known=true:=rfl
theorem sh_k_bool:Sh.bool.known=true:=rfl
theorem sh_k_str:Sh.str.known=true:=rfl
theorem sh_k_sl (e:Nat):(Sh.slice e).known=true:=rfl
theorem sh_k_fl:Sh.flat.known=true:=rfl
theorem rng0:(([]:List Nat)=List.range 0)=True:=by simp [List.range,List.range.loop]
theorem rng1:(([0]:List Nat)=List.range 1)=True:=by simp [List.range,List.range.loop]
theorem rng2:(([0,1]:List Nat)=List.range 2)=True:=by simp [List.range,List.range.loop]
theorem rng3:(([0,1,2]:List Nat)=List.range 3)=True:=by simp [List.range,List.range.loop]
theorem rng4:(([0,1,2,3]:List Nat)=List.range 4)=True:=by simp [List.range,List.range.loop]
theorem rng5:(([0,1,2,3,4]:List Nat)=List.range 5)=True:=by simp [List.range,List.range.loop]
theorem rng6:(([0,1,2,3,4,5]:List Nat)=List.range 6)=True:=by simp [List.range,List.range.loop]
theorem rng7:(([0,1,2,3,4,5,6]:List Nat)=List.range 7)=True:=by simp [List.range,List.range.loop]
theorem rng8:(([0,1,2,3,4,5,6,7]:List Nat)=List.range 8)=True:=by simp [List.range,List.range.loop]
theorem rng9:(([0,1,2,3,4,5,6,7,8]:List Nat)=List.range 9)=True:=by simp [List.range,List.range.loop]
theorem rng10:(([0,1,2,3,4,5,6,7,8,9]:List Nat)=List.range 10)=True:=by simp [List.range,List.range.loop]
theorem rng11:(([0,1,2,3,4,5,6,7,8,9,10]:List Nat)=List.range 11)=True:=by simp [List.range,List.range.loop]
theorem rng12:(([0,1,2,3,4,5,6,7,8,9,10,11]:List Nat)=List.range 12)=True:=by simp [List.range,List.range.loop]
theorem get_0 {α:Type} (a:α) (r:List α):(a :: r)[0]?=some a:=rfl
theorem gd_0 {α:Type} (a d:α) (r:List α):(a :: r).getD 0 d=a:=rfl
theorem gd_s {α:Type} (a d:α) (r:List α) (n:Nat):(a :: r).getD (n+1) d=r.getD n d:=by simp [List.getD]
theorem get_s {α:Type} (a:α) (r:List α) (n:Nat):(a :: r)[n+1]?=r[n]?:=rfl
end
end Go.TL.S

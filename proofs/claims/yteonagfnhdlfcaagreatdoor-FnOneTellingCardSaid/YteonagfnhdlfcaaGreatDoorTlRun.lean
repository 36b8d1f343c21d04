import Derived.Test.YteonagfnhdlfcaaGreatDoorTlSimp
set_option linter.unusedSimpArgs false
set_option linter.unusedVariables false
noncomputable section
namespace Go.TL
open Go
inductive Fm where
 | seq (y:Code)
 | blk (id:Nat)
 | pr (id:Nat)
 | loop (I:Nat→St→Prop) (n:Nat)
 | cut (J:St→Prop)
structure Env where
 P:Program
 tab:Tab
 cfs:List (Nat×List (Nat×Nat))
 m:Nat
 Q:Exit→St→Prop
def Kof (E:Env):List Fm→Exit→St→Prop
 | [], e, s=>E.Q e s
 | .seq y :: st, e, s=>match e with
  | .normal=>wpC E.P E.tab E.cfs E.m y s (Kof E st)
  | e=>Kof E st e s
 | .blk id :: st, e, s=>match e with
  | .exit id'=>if id'=id then Kof E st .normal s else Kof E st (.exit id') s
  | e=>Kof E st e s
 | .pr id :: st, e, s=>match e with
  | .normal=>Kof E st .normal (s.prune (zkm E.cfs (id+1000)))
  | e=>Kof E st e s
 | .loop I n :: st, e, s=>match e with
  | .normal=>∃ n', n' < n∧∃ s2, Weak E.m s s2∧I n' s2
  | e=>Kof E st e s
 | .cut J :: st, e, s=>match e with
  | .normal=>∃ s2, Weak E.m s s2∧J s2
  | e=>Kof E st e s
def X (E:Env) (e:Exit) (s:St) (st:List Fm):Prop:=Kof E st e s
def W (E:Env) (x:Code) (s:St) (st:List Fm):Prop:=wpC E.P E.tab E.cfs E.m x s (Kof E st)
abbrev Md:=Option (List (Nat×Nat)×Nat×Log)
def Md.nx (md:Md) (wd:Option Nat) (H H':HL):Md:=match md with
 | none=>none
 | some (cf, k, L)=>some (cf, k+1, bif zrg cf k then (k, (wd, H, H')) :: L else L)
def Md.skip (md:Md):Md:=match md with
 | none=>none
 | some (cf, k, L)=>some (cf, k+1, L)
def R (E:Env) (md:Md) (all:Array Oper) (l:List Oper) (s:St) (st:List Fm):Prop:=match md with
 | none=>zp1 E.P E.tab all l s (Kof E st .normal)
 | some (cf, k, L)=>zoY E.P E.tab all cf l k s L (Kof E st .normal)
def D (E:Env) (cf:List (Nat×Nat)) (all:Array Oper) (l:List Oper) (s:St) (st:List Fm):Prop:=zoY E.P E.tab all cf l 0 s [] (Kof E st .normal)
def Gh (E:Env) (b:Bool) (id:Nat) (ops:Array Oper) (dr:Bool) (s:St) (st:List Fm):Prop:=match b with
 | false=>zxv E.P E.tab E.cfs id ops dr s (Kof E st)
 | true=>∃ s2, Weak E.m s s2∧zxv E.P E.tab E.cfs id ops dr s2 (Kof E st)
def Bs (E:Env) (b:Bool) (x y:Code) (d:Nat) (s:St) (st:List Fm):Prop:=(b=true→W E x (s.know d true) st)∧(b=false→W E y (s.know d false) st)
def Bc (E:Env) (lv:LV) (x y:Code) (d:Nat) (s:St) (st:List Fm):Prop:=zyE lv λ b=>Bs E b x y d s st
def Sq (E:Env) (b:Bool) (x y:Code) (s:St) (st:List Fm):Prop:=match b with
 | false=>W E x s (.seq y :: st)
 | true=>∃ J:St→Prop, W E x s (.cut J :: st)∧∀ s2, J s2→W E y s2 st
def F (E:Env) (x:Option Res) (n:Option (Bool×LV)) (wd:Option Nat) (dst:Option Nat) (md:Md) (all:Array Oper) (r:List Oper) (s:St) (st:List Fm):Prop:=plain x n s λ lv H nx=>R E (md.nx wd s.H H) all r (s.put dst lv H nx) st
def Cl (E:Env) (f:LV) (args:List LV) (wd:Option Nat) (dst:Option Nat) (md:Md) (all:Array Oper) (r:List Oper) (s:St) (st:List Fm):Prop:=zs2 E.P s f args λ lv H nx=>R E (md.nx wd s.H H) all r (s.put dst lv H nx) st
def G (E:Env) (c:Option (Operand×Array Operand)) (op:Op) (dst:Option Nat) (md:Md) (all:Array Oper) (r:List Oper) (s:St) (st:List Fm):Prop:=match c with
 | some (f, args)=>Cl E (ev s.T f) (args.toList.map (ev s.T)) (wid s.T op) dst md all r s st
 | none=>F E (opE E.P E.tab s op) (znY E.tab s.T op) (wid s.T op) dst md all r s st
def Sp (E:Env) (b:Bool) (d:Nat) (want:Bool) (op:Op) (dst:Option Nat) (md:Md) (all:Array Oper) (r:List Oper) (s:St) (st:List Fm):Prop :=
 (b=want→zmf (s.know d want) dst=true∧G E (zm0 op) op dst md all r (s.know d want) st)∧(b=!want→zmf s dst=true∧R E md.skip all r ((s.know d (!want)).put dst (.tu []) s.H s.nx) st)
def Gd (E:Env) (lv:LV) (d:Nat) (want:Bool) (op:Op) (dst:Option Nat) (md:Md) (all:Array Oper) (r:List Oper) (s:St) (st:List Fm):Prop:=zyF lv (λ b=>Sp E b d want op dst md all r s st) (zmf s dst=true∧R E md.skip all r (s.put dst (.tu []) s.H s.nx) st)
def Gj (E:Env) (x:Option Nat) (want:Bool) (op:Op) (dst:Option Nat) (md:Md) (all:Array Oper) (r:List Oper) (s:St) (st:List Fm):Prop:=match x with
 | some d=>Gd E (tv s.T d) d want op dst md all r s st
 | none=>False
def okP (x y:Option (Option Nat×HL×HL)):Prop:=match x, y with
 | some (some id, _, _), some (_, H, H')=>hp H id=hp H' id
 | _, _=>True
namespace S
variable (E:Env) (s:St) (st:List Fm)
theorem X_nil (e:Exit):X E e s []=E.Q e s:=nr rfl
theorem X_seq_n (y:Code):X E .normal s (.seq y :: st)=W E y s st:=nr rfl
theorem X_seq_r (y:Code):X E .ret s (.seq y :: st)=X E .ret s st:=nr rfl
theorem X_seq_e (y:Code) (i:Nat):X E (.exit i) s (.seq y :: st)=X E (.exit i) s st:=nr rfl
theorem X_pr_n (id:Nat):X E .normal s (.pr id :: st)=X E .normal (s.prune (zkm E.cfs (id+1000))) st:=nr rfl
theorem prune_none (T:List (Nat×LV)) (H:HL) (nx nt:Nat):St.prune ⟨T, H, nx, nt⟩ none=⟨T, H, nx, nt⟩:=nr rfl
theorem prune_some (T:List (Nat×LV)) (H:HL) (nx nt:Nat) (l:List (Nat×Nat)):St.prune ⟨T, H, nx, nt⟩ (some l)=⟨znq T l, H, nx, nt⟩:=nr rfl
theorem prT_nil (T:List (Nat×LV)):znq T []=[]:=rfl
theorem prT_cons (T:List (Nat×LV)) (t x:Nat) (r:List (Nat×Nat)):znq T ((t, x) :: r)=(t, tv T t) :: znq T r:=rfl
theorem X_blk_n (id:Nat):X E .normal s (.blk id :: st)=X E .normal s st:=nr rfl
theorem X_blk_r (id:Nat):X E .ret s (.blk id :: st)=X E .ret s st:=nr rfl
theorem X_blk_e (id i:Nat):X E (.exit i) s (.blk id :: st)=if i=id then X E .normal s st else X E (.exit i) s st:=nr rfl
theorem X_loop_n (I:Nat→St→Prop) (n:Nat):X E .normal s (.loop I n :: st)=∃ n', n' < n∧∃ s2, Weak E.m s s2∧I n' s2:=nr rfl
theorem X_loop_r (I:Nat→St→Prop) (n:Nat):X E .ret s (.loop I n :: st)=X E .ret s st:=nr rfl
theorem X_loop_e (I:Nat→St→Prop) (n i:Nat):X E (.exit i) s (.loop I n :: st)=X E (.exit i) s st:=nr rfl
theorem W_skip:W E .skip s st=X E .normal s st:=nr rfl
theorem W_ret:W E .ret s st=X E .ret s st:=nr rfl
theorem W_exit (i:Nat):W E (.exit i) s st=X E (.exit i) s st:=nr rfl
theorem zDJ (y:Code):(λ e s'=>match e with
  | .normal=>wpC E.P E.tab E.cfs E.m y s' (Kof E st)
  | e=>Kof E st e s')=Kof E (.seq y :: st):=by
 funext e s';cases e<;>rfl
theorem zDK (J:St→Prop):(λ e s'=>match e with
  | .normal=>∃ s2, Weak E.m s' s2∧J s2
  | e=>Kof E st e s')=Kof E (.cut J :: st):=by
 funext e s';cases e<;>rfl
theorem W_seq (x y:Code):W E (.seq x y) s st=Sq E (znM E.cfs x) x y s st:=by
 unfold Sq W
 show wpC E.P E.tab E.cfs E.m (.seq x y) s _=_
 conv=>lhs;unfold wpC
 cases znM E.cfs x with
 | false =>
  show wpC E.P E.tab E.cfs E.m x s _=wpC E.P E.tab E.cfs E.m x s _
  exact congrArg _ (zDJ E st y)
 | true =>
  show (∃ J:St→Prop, _)=_
  refine congrArg Exists (funext λ J=>?_)
  refine congrArg (·∧_) ?_
  show wpC E.P E.tab E.cfs E.m x s _=wpC E.P E.tab E.cfs E.m x s _
  exact congrArg _ (zDK E st J)
theorem Sq_f (x y:Code):Sq E false x y s st=W E x s (.seq y :: st):=nr rfl
theorem cut_cond (cfs:List (Nat×List (Nat×Nat))) (d:Nat) (x y:Code):znM cfs (.cond (.tmp d) x y)=(zkm cfs (d+2000)).isSome:=rfl
theorem cut_block (cfs:List (Nat×List (Nat×Nat))) (id:Nat) (x:Code):znM cfs (.block id x)=(zkm cfs (id+3000)).isSome:=rfl
theorem cut_region (cfs:List (Nat×List (Nat×Nat))) (id:Nat) (ops:Array Oper) (dr:Bool):znM cfs (.region id ops dr)=(zkm cfs (id+4000)).isSome:=rfl
theorem cut_seq (cfs:List (Nat×List (Nat×Nat))) (x y:Code):znM cfs (.seq x y)=znM cfs y:=rfl
theorem cut_loop (cfs:List (Nat×List (Nat×Nat))) (x:Code):znM cfs (.loop x)=false:=rfl
theorem cut_skip (cfs:List (Nat×List (Nat×Nat))):znM cfs .skip=false:=rfl
theorem cut_ret (cfs:List (Nat×List (Nat×Nat))):znM cfs .ret=false:=rfl
theorem cut_exit (cfs:List (Nat×List (Nat×Nat))) (i:Nat):znM cfs (.exit i)=false:=rfl
theorem is_none {α:Type}:(none:Option α).isSome=false:=rfl
theorem is_some {α:Type} (x:α):(some x).isSome=true:=rfl
theorem X_cut_r (J:St→Prop):X E .ret s (.cut J :: st)=X E .ret s st:=nr rfl
theorem X_cut_e (J:St→Prop) (i:Nat):X E (.exit i) s (.cut J :: st)=X E (.exit i) s st:=nr rfl
theorem zDL (id:Nat):(λ e s'=>match e with
  | .exit id'=>if id'=id then Kof E st .normal s' else Kof E st (.exit id') s'
  | e=>Kof E st e s')=Kof E (.blk id :: st):=by
 funext e s';cases e<;>rfl
theorem W_block (id:Nat) (x:Code):W E (.block id x) s st=W E x s (.blk id :: st):=by
 show wpC E.P E.tab E.cfs E.m x s _=wpC E.P E.tab E.cfs E.m x s _
 exact congrArg _ (zDL E st id)
theorem W_cond (d:Nat) (x y:Code):W E (.cond (.tmp d) x y) s st=Bc E (tv s.T d) x y d s st:=nr rfl
theorem Bc_known (t b:Bool) (x y:Code) (d:Nat):Bc E (.lf t (.sc (.bool b))) x y d s st=Bs E b x y d s st:=nr rfl
theorem Bs_true (x y:Code) (d:Nat):Bs E true x y d s st=W E x (s.know d true) st:=by simp [Bs]
theorem Bs_false (x y:Code) (d:Nat):Bs E false x y d s st=W E y (s.know d false) st:=by simp [Bs]
theorem W_region (id:Nat) (ops:Array Oper) (dr:Bool):W E (.region id ops dr) s st=Gh E (zkm E.cfs (id+5000)).isSome id ops dr s st:=by
 unfold W Gh
 conv=>lhs;unfold wpC
 cases (zkm E.cfs (id+5000)).isSome<;>rfl
theorem Gh_n (id:Nat) (ops:Array Oper):Gh E false id ops false s st=R E none ops ops.toList s (.pr id :: st):=nr rfl
theorem R_nil (all:Array Oper):R E none all [] s st=X E .normal s st:=nr rfl
theorem R_nilD (cf:List (Nat×Nat)) (k:Nat) (L:Log) (all:Array Oper):R E (some (cf, k, L)) all [] s st=(zoa L cf∧X E .normal s st):=nr rfl
theorem nx_none (wd:Option Nat) (H H':HL):Md.nx none wd H H'=none:=nr rfl
theorem nx_some (cf:List (Nat×Nat)) (k:Nat) (L:Log) (wd:Option Nat) (H H':HL):Md.nx (some (cf, k, L)) wd H H'=some (cf, k+1, bif zrg cf k then (k, (wd, H, H')) :: L else L):=nr rfl
theorem skip_none:Md.skip none=none:=nr rfl
theorem skip_some (cf:List (Nat×Nat)) (k:Nat) (L:Log):Md.skip (some (cf, k, L))=some (cf, k+1, L):=nr rfl
theorem log_nil (L:Log):zoa L []=True:=nr rfl
theorem log_cons (L:Log) (i j:Nat) (r:List (Nat×Nat)):zoa L ((i, j) :: r)=((if i=j then flL (zkm L i) else okP (zkm L i) (zkm L j))∧zoa L r):=by
 simp only [zoa]
 unfold okP
 congr 2
theorem okP_some (id:Nat) (a b H H':HL) (x:Option Nat):okP (some (some id, a, b)) (some (x, H, H'))=(hp H id=hp H' id):=nr rfl
theorem okP_none (a b:HL) (y:Option (Option Nat×HL×HL)):okP (some (none, a, b)) y=True:=nr rfl
theorem okP_l (y:Option (Option Nat×HL×HL)):okP none y=True:=nr rfl
theorem okP_r (id:Nat) (a b:HL):okP (some (some id, a, b)) none=True:=nr rfl
theorem wid_call (T:List (Nat×LV)) (c:Call):wid T (.call c)=none:=nr rfl
theorem wid_load (T:List (Nat×LV)) (t:Nat) (x:Operand):wid T (.load t x)=(match ev T x with
  | .pb id _=>some id
  | .pe id _ _ _=>some id
  | _=>none):=nr rfl
theorem wid_conv (T:List (Nat×LV)) (t u:Nat) (x:Operand):wid T (.convert t u x)=(match ev T x with
  | .os id _ _ _ _ _=>some id
  | _=>none):=nr rfl
theorem R_op (md:Md) (all:Array Oper) (dst:Option Nat) (op:Op) (ty:Nat) (pos:String) (after:Array Edge) (r:List Oper) :
  R E md all (⟨dst, op, ty, pos, after, none⟩ :: r) s st=(zmf s dst=true∧G E (zm0 op) op dst md all r s st):=by
 rcases md with _ | ⟨cf, k, L⟩
 ·unfold R zp1 zpw G opW Cl F
  cases zm0 op<;>rfl
 ·unfold R zoY zpw G opW Cl F
  cases zm0 op<;>rfl
theorem R_gd (md:Md) (all:Array Oper) (dst:Option Nat) (op:Op) (ty:Nat) (pos:String) (after:Array Edge) (j:Nat) (want:Bool) (r:List Oper) :
  R E md all (⟨dst, op, ty, pos, after, some (j, want)⟩ :: r) s st=Gj E ((all[j]?).bind (·.dst)) want op dst md all r s st:=by
 rcases md with _ | ⟨cf, k, L⟩
 ·unfold R zp1 Gj
  simp only
  cases (all[j]?).bind (·.dst) with
  | none=>rfl
  | some d =>
   unfold Gd Sp zpw G opW Cl F
   cases zm0 op<;>rfl
 ·unfold R zoY Gj
  simp only
  cases (all[j]?).bind (·.dst) with
  | none=>rfl
  | some d =>
   unfold Gd Sp zpw G opW Cl F
   cases zm0 op<;>rfl
theorem Gj_some (d:Nat) (want:Bool) (op:Op) (dst:Option Nat) (md:Md) (all:Array Oper) (r:List Oper):Gj E (some d) want op dst md all r s st=Gd E (tv s.T d) d want op dst md all r s st:=nr rfl
theorem Gd_known (t b:Bool) (d:Nat) (want:Bool) (op:Op) (dst:Option Nat) (md:Md) (all:Array Oper) (r:List Oper):Gd E (.lf t (.sc (.bool b))) d want op dst md all r s st=Sp E b d want op dst md all r s st:=nr rfl
theorem Gd_skip (d:Nat) (want:Bool) (op:Op) (dst:Option Nat) (md:Md) (all:Array Oper) (r:List Oper):Gd E (.tu []) d want op dst md all r s st=(zmf s dst=true∧R E md.skip all r (s.put dst (.tu []) s.H s.nx) st):=nr rfl
theorem Sp_tt (d:Nat) (op:Op) (dst:Option Nat) (md:Md) (all:Array Oper) (r:List Oper):Sp E true d true op dst md all r s st=(zmf (s.know d true) dst=true∧G E (zm0 op) op dst md all r (s.know d true) st):=by simp [Sp]
theorem Sp_ff (d:Nat) (op:Op) (dst:Option Nat) (md:Md) (all:Array Oper) (r:List Oper):Sp E false d false op dst md all r s st=(zmf (s.know d false) dst=true∧G E (zm0 op) op dst md all r (s.know d false) st):=by simp [Sp]
theorem Sp_tf (d:Nat) (op:Op) (dst:Option Nat) (md:Md) (all:Array Oper) (r:List Oper):Sp E true d false op dst md all r s st=(zmf s dst=true∧R E md.skip all r ((s.know d true).put dst (.tu []) s.H s.nx) st):=by simp [Sp]
theorem Sp_ft (d:Nat) (op:Op) (dst:Option Nat) (md:Md) (all:Array Oper) (r:List Oper):Sp E false d true op dst md all r s st=(zmf s dst=true∧R E md.skip all r ((s.know d false).put dst (.tu []) s.H s.nx) st):=by simp [Sp]
theorem G_none (op:Op) (dst:Option Nat) (md:Md) (all:Array Oper) (r:List Oper):G E none op dst md all r s st=F E (opE E.P E.tab s op) (znY E.tab s.T op) (wid s.T op) dst md all r s st:=nr rfl
theorem G_some (f:Operand) (args:Array Operand) (op:Op) (dst:Option Nat) (md:Md) (all:Array Oper) (r:List Oper):G E (some (f, args)) op dst md all r s st=Cl E (ev s.T f) (args.toList.map (ev s.T)) (wid s.T op) dst md all r s st:=nr rfl
theorem F_some (p:Prop) (v:LV) (H:HL) (nx:Nat) (n:Option (Bool×LV)) (wd:Option Nat) (dst:Option Nat) (md:Md) (all:Array Oper) (r:List Oper):F E (some ⟨p, v, H, nx⟩) n wd dst md all r s st=(p∧R E (md.nx wd s.H H) all r (s.put dst v H nx) st):=nr rfl
theorem F_nil (e:Bool) (lv:LV) (wd:Option Nat) (dst:Option Nat) (md:Md) (all:Array Oper) (r:List Oper):F E none (some (e, lv)) wd dst md all r s st=∀ b:Bool, zxq (b == e) lv→R E (md.nx wd s.H s.H) all r (s.put dst (.lf false (.sc (.bool b))) s.H s.nx) st:=by
 unfold F plain
 refine propext ⟨λ ⟨e', lv', h, k⟩=>?_, λ k=>⟨e, lv, rfl, k⟩⟩
 cases h;exact k
theorem nq_lf (b t:Bool) (rows:List (List Leaf)):zxq b (.lf t (.sl rows))=(b=true→rows=[]):=nr rfl
theorem nq_os (b:Bool) (id es lo len mc:Nat) (ex:Bool):zxq b (.os id es lo len mc ex)=(b=true→len=0):=nr rfl
theorem nq_nl (b:Bool):zxq b .nl=(b=true→True):=nr rfl
theorem nilCmp_eql (tab:Tab) (T:List (Nat×LV)) (t t':Nat) (x:Operand):znY tab T (.binOp .eql t x (.const (.slice none 0 0)) t')=if zvV tab T (.binOp .eql t x (.const (.slice none 0 0)) t')=true then some (true, ev T x) else none:=nr rfl
theorem nilCmp_neq (tab:Tab) (T:List (Nat×LV)) (t t':Nat) (x:Operand):znY tab T (.binOp .neq t x (.const (.slice none 0 0)) t')=if zvV tab T (.binOp .neq t x (.const (.slice none 0 0)) t')=true then some (false, ev T x) else none:=nr rfl
def zv3:Sh→Bool
 | .slice _=>true
 | _=>false
def zyR:LV→Bool
 | .nl=>true
 | .os ..=>true
 | .lf _ (.sl _)=>true
 | _=>false
theorem nilB_eql (tab:Tab) (T:List (Nat×LV)) (t t':Nat) (x:Operand):zvV tab T (.binOp .eql t x (.const (.slice none 0 0)) t')=(((zkm tab t).map λ e=>zv3 e.sh).getD false && zyR (ev T x)):=by
 show ((true && true) && (match zkm tab t with | some e=>(match e.sh with | .slice _=>true | _=>false) | none=>false) && (match ev T x with | .nl=>true | .os ..=>true | .lf _ (.sl _)=>true | _=>false))=_
 have h1:(match zkm tab t with | some e=>(match e.sh with | .slice _=>true | _=>false) | none=>false)=((zkm tab t).map λ e=>zv3 e.sh).getD false:=by
  cases zkm tab t with
  | none=>rfl
  | some e =>
   show (match e.sh with | .slice _=>true | _=>false)=zv3 e.sh
   cases e.sh<;>rfl
 rw [h1]
 rfl
theorem nilB_neq (tab:Tab) (T:List (Nat×LV)) (t t':Nat) (x:Operand):zvV tab T (.binOp .neq t x (.const (.slice none 0 0)) t')=(((zkm tab t).map λ e=>zv3 e.sh).getD false && zyR (ev T x)):=by
 show ((true && true) && (match zkm tab t with | some e=>(match e.sh with | .slice _=>true | _=>false) | none=>false) && (match ev T x with | .nl=>true | .os ..=>true | .lf _ (.sl _)=>true | _=>false))=_
 have h1:(match zkm tab t with | some e=>(match e.sh with | .slice _=>true | _=>false) | none=>false)=((zkm tab t).map λ e=>zv3 e.sh).getD false:=by
  cases zkm tab t with
  | none=>rfl
  | some e =>
   show (match e.sh with | .slice _=>true | _=>false)=zv3 e.sh
   cases e.sh<;>rfl
 rw [h1]
 rfl
theorem shSl_ (el:Nat):zv3 (.slice el)=true:=rfl
theorem slLV_nl:zyR .nl=true:=rfl
theorem slLV_os (id es lo len mc:Nat) (ex:Bool):zyR (.os id es lo len mc ex)=true:=rfl
theorem slLV_lf (t:Bool) (rows:List (List Leaf)):zyR (.lf t (.sl rows))=true:=rfl
theorem W_loop (x:Code):W E (.loop x) s st=∃ (I:Nat→St→Prop) (n:Nat), (∃ s2, Weak E.m s s2∧I n s2)∧∀ n s, I n s→W E x s (.loop I n :: st):=by
 have key:∀ (I:Nat→St→Prop) (n:Nat) (s:St), wpC E.P E.tab E.cfs E.m x s (λ e s'=>match e with
   | .normal=>∃ n', n' < n∧∃ s2, Weak E.m s' s2∧I n' s2
   | e=>Kof E st e s')=wpC E.P E.tab E.cfs E.m x s (Kof E (.loop I n :: st)):=λ I n s=>congrArg _ (by funext e s';cases e<;>rfl)
 refine propext ⟨λ ⟨I, n, h0, h⟩=>⟨I, n, h0, λ n s hI=>Eq.mp (key I n s) (h n s hI)⟩, λ ⟨I, n, h0, h⟩=>⟨I, n, h0, λ n s hI=>Eq.mpr (key I n s) (h n s hI)⟩⟩
theorem put_some (T:List (Nat×LV)) (H H':HL) (nx nx' nt d:Nat) (v:LV):St.put ⟨T, H, nx, nt⟩ (some d) v H' nx'=⟨(d, v) :: T, H', nx', nt⟩:=nr rfl
theorem put_none (T:List (Nat×LV)) (H H':HL) (nx nx' nt:Nat) (v:LV):St.put ⟨T, H, nx, nt⟩ none v H' nx'=⟨T, H', nx', nt⟩:=nr rfl
theorem know_ (T:List (Nat×LV)) (H:HL) (nx nt d:Nat) (b:Bool):St.know ⟨T, H, nx, nt⟩ d b=⟨ztQ T d (.lf false (.sc (.bool b))), H, nx, nt⟩:=nr rfl
theorem repl_nil (d:Nat) (v:LV):ztQ [] d v=[(d, v)]:=nr rfl
theorem repl_cons (k:Nat) (x:LV) (r:List (Nat×LV)) (d:Nat) (v:LV):ztQ ((k, x) :: r) d v=if d=k then (k, v) :: r else (k, x) :: ztQ r d v:=nr rfl
theorem okDst_some (T:List (Nat×LV)) (H:HL) (nx nt d:Nat):(zmf ⟨T, H, nx, nt⟩ (some d)=true)=(d < nt):=by simp [zmf]
theorem okDst_none:(zmf s none=true)=True:=by simp [zmf]
theorem zuT {P:Program} {tab:Tab} {all:Array Oper} {K:St→Prop}:∀ (l:List Oper) (k:Nat) (s:St) (L:Log), zoY P tab all [] l k s L K=zp1 P tab all l s K
 | [], k, s, L=>by unfold zoY zp1;simp [zoa]
 | o :: r, k, s, L=>by
  have ih:∀ k s L, zoY P tab all [] r k s L K=zp1 P tab all r s K:=λ k s L=>zuT r k s L
  unfold zoY zp1
  simp only [ih]
  rcases o.guard with _ | ⟨j, want⟩
  ·rfl
  ·cases (all[j]?).bind (·.dst)<;>rfl
theorem Gh_d (id:Nat) (ops:Array Oper):Gh E false id ops true s st=D E (zAt E.cfs id) ops ops.toList s (.pr id :: st):=nr rfl
theorem D_nil (all:Array Oper) (l:List Oper):D E [] all l s st=R E none all l s st:=zuT l 0 s []
theorem D_cons (p:Nat×Nat) (cf:List (Nat×Nat)) (all:Array Oper) (l:List Oper):D E (p :: cf) all l s st=R E (some (p :: cf, 0, [])) all l s st:=nr rfl
end S
theorem ztV {E:Env} {id:Nat} {ops:Array Oper} {dr:Bool} {s:St} {st:List Fm} (s2:St) (hw:Weak E.m s s2) (h:Gh E false id ops dr s2 st):Gh E true id ops dr s st:=⟨s2, hw, h⟩
theorem zyS {E:Env} {b:Bool} {x y:Code} {d:Nat} {s:St} {st:List Fm} (h1:b=true→Bs E true x y d s st) (h2:b=false→Bs E false x y d s st):Bs E b x y d s st:=by
 cases b
 ·exact h2 rfl
 ·exact h1 rfl
theorem zkC {E:Env} {x y:Code} {s:St} {st:List Fm} (J:St→Prop) (h1:W E x s (.cut J :: st)) (h2:∀ s2, J s2→W E y s2 st):Sq E true x y s st:=⟨J, h1, h2⟩
theorem zkp {E:Env} {s s2:St} {st:List Fm} {J:St→Prop} (hj:J s2) (hw:Weak E.m s s2):X E .normal s (.cut J :: st):=⟨s2, hw, hj⟩
theorem zAw {P:Program} {tab:Tab} (htab:zlK P tab) (hmo:P.follows .mixedOrders=true) (cfs:List (Nat×List (Nat×Nat))) {f:FuncId} {fn:Func} {code:Code} (hf:P.funcs[f]?=some fn) (hb:fn.body=some code) (hn:(fn.name == "runtime.NumGoroutine")=false)
  {args:List LV} {H0 H1:HL} {m nxr:Nat} {res:LV} (hlen:args.length≤fn.ntmps) (hc:zrh cfs code=true)
  (h:W ⟨P, tab, cfs, m, zoF tab m fn.results.toList res H1 nxr⟩ code (start args H0 m fn.ntmps) []):Fn P f args H0 m res H1 nxr :=
 zAv htab hmo cfs hf hb hn hlen hc h
attribute [irreducible] X W Sq R D Gh Bc Bs F Cl G Gd Gj Sp
end Go.TL

import Derived.Test.YteonagfnhdlfcaaGreatDoorG11TlUse
set_option linter.unusedSimpArgs false
set_option linter.unusedVariables false
noncomputable section
namespace Go.TL
open Go
def zCb {α:Type} (S:α→St) (pre:α→Prop) (meas:α→Nat):Nat→St→Prop:=λ n s=>∃ a,pre a∧meas a=n∧s=S a
def zBz (ρ:Ren):Option (Bool×Ob)→Bool×Ob→Prop
 | some (fr,o),o2=>(o2.1=fr∨o2.1=false)∧zsO ρ o o2.2
 | none,_=>False
def zxw (ρ:Ren) (H:zkO):Option (Option Nat)→Bool×Ob→Prop
 | some (some id),o2=>zBz ρ (H id) o2
 | some none,o2=>(match o2.2 with | .arr _ _ rows=>rows=[] | .deep _ rows=>rows=[] | _=>False)
 | none,_=>False
def zBA (ee:TE) (rm:Nat) (es lo len:Nat) (tx:Bool) (rows:List (List Leaf)) (id:Nat) (o:Option (Bool×Ob)) (s:St):Option Res:=match o with
 | some (fr,.arr t1 es' old)=>if ee.size=es∧es'=es then
   some ⟨lo+len≤old.length∧(∀ r∈rows,r.length=es)∧(len+rows.length) * ee.bytes≤140737488355328,.os s.nx es 0 (len+rows.length) rm false,
    (s.nx,some (fr,.arr (t1 || tx) es ((old.drop lo).take len++rows))) :: (id,none) :: s.H,s.nx+1⟩ else none
 | _=>none
def zAy (ee:TE) (x y:LV) (tx:Bool) (rows:List (List Leaf)) (s:St):Option Res:=match x with
 | .nl=>some ⟨(∀ r∈rows,r.length=ee.size)∧rows.length * ee.bytes≤140737488355328,.os s.nx ee.size 0 rows.length rows.length false,(s.nx,some (true,.arr tx ee.size rows)) :: s.H,s.nx+1⟩
 | .os id es lo len _ _=>zBA ee (zrR x y (len+rows.length)) es lo len tx rows id (hp s.H id) s
 | _=>none
def zBB (ee:Option TE) (x y:LV) (src:Option (Bool×List (List Leaf))) (s:St):Option Res:=match ee,src with
 | some ee,some (tx,rows)=>if 0 < ee.bytes∧ee.zero.length=ee.size then zAy ee x y tx rows s else none
 | _,_=>none
def zBC (tab:Tab) (ee:TE) (x:LV) (id:Nat) (o:Option (Nat×List DSh×List Leaf×List LV)) (s:St):Option Res:=match o with
 | some q2=>zrp (zoR s.H id) (zmb tab (zoT s.H s.nx id) x q2.2 ee)
 | none=>none
def zAz (tab:Tab) (ee:TE) (x y:LV) (q:Nat×List DSh×List Leaf×List LV) (o:Option Nat) (s:St):Option Res:=match o with
 | some id=>zBC tab ee x id (zrS (hp (zoT s.H s.nx id).H) y) s
 | none=>zmb tab s x q.2 ee
def zwO (tab:Tab) (ee:Option TE) (x y:LV) (fy:Option (Nat×List DSh×List Leaf×List LV)) (src:Option (Bool×List (List Leaf))) (s:St):Option Res:=match fy with
 | some q=>match ee with
  | some ee=>zAz tab ee x y q (zyC (hp s.H) x) s
  | none=>none
 | none=>zBB ee x y src s
def zyW (a b es len:Nat) (ss:List DSh) (r:List Leaf) (ks:List LV) (id:Nat) (o:Option (Bool×Ob)) (s:St):Option Res:=match o with
 | some (fr,.deep ss2 old)=>if a=es∧ks.all flat=true then some ⟨ss2=ss∧len=old.length∧(len+1) * b≤140737488355328,.os s.nx es 0 (len+1) (len+1) false,(s.nx,some (fr,.foc ss2 (old++[r]) len ks)) :: (id,none) :: s.H,s.nx+1⟩ else none
 | _=>none
def zBD (tab:Tab) (a b:Option TE) (x y:LV) (fy:Option (Nat×List DSh×List Leaf×List LV)) (src:Option (Bool×List (List Leaf))) (s:St):Option Res:=match a,b with
 | some e,some e2=>match e.sh,e2.sh with
  | .slice el,.slice _=>zwO tab (zkm tab el) x y fy src s
  | _,_=>none
 | _,_=>none
def zCc (es lo len:Nat) (o:Option (Bool×Ob)):Option (Bool×List (List Leaf)):=match o with
 | some (_,.arr t es' rows)=>if es'=es∧lo+len≤rows.length then some (t,(rows.drop lo).take len) else none
 | _=>none
def zBE (ee:TE) (es lo:Nat) (o:Option (Bool×Ob)) (q:Option (Bool×List Leaf)) (s:St):Option Res:=match o,q with
 | some (_,.arr _ es' old),some (false,_)=>if ee.zero.length=ee.size∧ee.size=es∧es'=es then some ⟨old.length≤lo,.un,s.H,s.nx⟩ else none
 | _,_=>none
def zBF (ee:Option TE) (x:LV) (s:St):Option Res:=match ee,x with
 | some ee,.os id es lo _ _ _=>zBE ee es lo (hp s.H id) (zlG (ee.zero.map zlg)) s
 | _,_=>none
def zCd (tab:Tab) (a:Option TE) (x:LV) (s:St):Option Res:=match a with
 | some e=>match e.sh with
  | .slice el=>zBF (zkm tab el) x s
  | _=>none
 | none=>none
def zxx (mc mc' len:Nat) (ex ex':Bool):Prop:=(mc'=mc∧ex'=ex)∨(mc'≤max len mc∧ex'=false)
def tOk (t t':Bool) (r:List (List Leaf)):Prop:=(t=true→t'=true)∨zoE r
def dzP (ss:List DSh):Option (List Leaf×List Nat×Bool)→Option (List DSh×List Leaf)
 | some (zl,[],true)=>some (ss,zl)
 | _=>none
def zyX:Option (List DSh)→Option (List DSh)
 | some ss=>some [.sl ss]
 | none=>none
def zAA:Option (List DSh)→Option (List DSh)→Option (List DSh)
 | some a,some b=>some (a++b)
 | _,_=>none
def ztX (tab:Tab) (n:Nat):List (Nat×Nat)→Option (List DSh)
 | []=>some []
 | (t,_) :: r=>zAA (zlw tab n t) (ztX tab n r)
def zoZ (tab:Tab) (n:Nat):Option TE→Option (List DSh)
 | some e=>match e.sh with
  | .int _=>some [.sc]
  | .bool=>some [.sc]
  | .str=>some [.sc]
  | .slice el=>zyX (zlw tab n el)
  | .struct fs=>ztX tab n fs
  | _=>none
 | none=>none
theorem zwP (tab:Tab) (n:Nat):∀ fs,zuE (zlw tab n) fs=ztX tab n fs
 | []=>rfl
 | (t,o) :: r=>by
  simp only [zuE,ztX,zwP tab n r]
  cases zlw tab n t<;>cases ztX tab n r<;>rfl
theorem zne (tab:Tab) (n:Nat) (e:Option TE):(match e with
  | some e=>match e.sh with
   | .int _=>some [.sc]
   | .bool=>some [.sc]
   | .str=>some [.sc]
   | .slice el=>(zlw tab n el).map λ ss=>[.sl ss]
   | .struct fs=>zuE (zlw tab n) fs
   | _=>none
  | none=>none)=zoZ tab n e:=by
 cases e with
 | none=>rfl
 | some e =>
  unfold zoZ
  simp only
  have hm:∀ x:Option (List DSh),x.map (λ ss=>[DSh.sl ss])=zyX x:=λ x=>by cases x<;>rfl
  cases e.sh<;>(try rfl)
  ·exact hm _
  ·exact zwP tab n _
def zyY (id:Nat) (fr:Bool) (ss:List DSh) (rows:List (List Leaf)) (p:Nat) (q:Option (List Leaf×List Nat×Bool)) (s:St):St:=match q with
 | some (ls,kl,f)=>if (inN id kl || ztL kl)=false then ⟨s.T,(id,some (fr && f,.deep ss (rows.set p ls))) :: zoQ kl s.H,s.nx,s.nt⟩ else s
 | none=>s
def zBj (id:Nat) (o:Option (Bool×Ob)) (s:St):St:=match o with
 | some (fr,.foc ss rows p ks)=>zyY id fr ss rows p (zna s.H ss ks) s
 | _=>s
def zyZ:Option (Leaf×Option Nat×Bool)→Option (List Leaf×List Nat×Bool)→Option (List Leaf×List Nat×Bool)
 | some (l,some n,f),some (ls,kl,g)=>some (l :: ls,n :: kl,f && g)
 | some (l,none,f),some (ls,kl,g)=>some (l :: ls,kl,f && g)
 | _,_=>none
def zy0 (ss:List DSh) (k es lo:Nat):Option (Bool×Ob)→Option (Leaf×Option Nat×Bool)
 | some (fr,.arr _ es' rows)=>if es=ss.length∧es'=es∧lo=0∧0 < es∧ss.all DSh.isSc=true then some (.sl rows,some k,fr) else none
 | some (fr,.deep _ rows)=>if es=ss.length∧lo=0∧0 < es then some (.sl rows,some k,fr) else none
 | _=>none
def zy1 (H:HL):Option (Bool×Ob)→Prop
 | some (_,.foc ss _ _ ks)=>znX H ss ks
 | _=>True
def zv4 (ss:List DSh) (len:Nat):Option (Bool×Ob)→Prop
 | some (_,.arr _ _ rows)=>len=rows.length∧zoE rows
 | some (_,.deep s2 rows)=>s2=ss∧len=rows.length
 | _=>True
def zCe (id p:Nat) (o:Option (Bool×Ob)) (s:St):St:=match o with
 | some (fr,.deep ss rows)=>⟨s.T,(id,some (fr,.foc ss rows p (zpn ss (rows.getD p []) s.nx))) :: zpU fr ss (rows.getD p []) s.nx s.H,s.nx+ss.length,s.nt⟩
 | _=>s
def zBk (p:Nat):Option (Bool×Ob)→Prop
 | some (_,.deep _ rows)=>p < rows.length
 | _=>True
namespace S
theorem app_ (tab:Tab) (s:St) (x y:Operand) (t u:Nat):zmU tab s [x,y] [t,u]=zBD tab (zkm tab t) (zkm tab u) (ev s.T x) (ev s.T y) (zrS (hp s.H) (ev s.T y)) (zlR (hp s.H) (ev s.T y)) s:=by
 unfold zmU zBD
 simp only
 cases zkm tab t with
 | none=>rfl
 | some e =>
  cases zkm tab u with
  | none=>rfl
  | some e2 =>
   simp only
   cases e.sh<;>cases e2.sh<;>(try rfl)
theorem appA_ (tab:Tab) (a b a' b' el el':Nat) (z z':List Value) (x y:LV) (fy:Option (Nat×List DSh×List Leaf×List LV)) (src:Option (Bool×List (List Leaf))) (s:St):zBD tab (some ⟨a,b,z,.slice el⟩) (some ⟨a',b',z',.slice el'⟩) x y fy src s=zwO tab (zkm tab el) x y fy src s:=rfl
theorem appA2_n (tab:Tab) (ee:Option TE) (x y:LV) (src:Option (Bool×List (List Leaf))) (s:St):zwO tab ee x y none src s=zBB ee x y src s:=rfl
theorem appA2_f (tab:Tab) (ee:TE) (x y:LV) (q:Nat×List DSh×List Leaf×List LV) (src:Option (Bool×List (List Leaf))) (s:St):zwO tab (some ee) x y (some q) src s=zAz tab ee x y q (zyC (hp s.H) x) s:=rfl
theorem appP_n (tab:Tab) (ee:TE) (x y:LV) (q:Nat×List DSh×List Leaf×List LV) (s:St):zAz tab ee x y q none s=zmb tab s x q.2 ee:=rfl
theorem appP_s (tab:Tab) (ee:TE) (x y:LV) (q:Nat×List DSh×List Leaf×List LV) (id:Nat) (s:St):zAz tab ee x y q (some id) s=zBC tab ee x id (zrS (hp (zoT s.H s.nx id).H) y) s:=rfl
theorem appQ_ (tab:Tab) (ee:TE) (x:LV) (id:Nat) (q2:Nat×List DSh×List Leaf×List LV) (s:St):zBC tab ee x id (some q2) s=zrp (zoR s.H id) (zmb tab (zoT s.H s.nx id) x q2.2 ee):=rfl
theorem packS_ (H:HL) (nx id:Nat):zoT H nx id=St.pack ⟨[],H,nx,0⟩ id:=rfl
theorem prePack_ (p a:Prop) (v:LV) (H:HL) (nx:Nat):zrp p (some ⟨a,v,H,nx⟩)=some ⟨p∧a,v,H,nx⟩:=rfl
theorem fi_nl (H:zkO):zyC H .nl=none:=rfl
theorem fi_os (H:zkO) (id es lo len mc:Nat) (ex:Bool):zyC H (.os id es lo len mc ex)=zs0 id (H id):=rfl
theorem fio_foc (id:Nat) (fr:Bool) (ss:List DSh) (rows:List (List Leaf)) (p:Nat) (ks:List LV):zs0 id (some (fr,.foc ss rows p ks))=some id:=rfl
theorem fio_deep (id:Nat) (fr:Bool) (ss:List DSh) (rows:List (List Leaf)):zs0 id (some (fr,.deep ss rows))=none:=rfl
theorem fio_arr (id:Nat) (fr t:Bool) (es:Nat) (rows:List (List Leaf)):zs0 id (some (fr,.arr t es rows))=none:=rfl
theorem fio_none (id:Nat):zs0 id none=none:=rfl
theorem appF_nl (tab:Tab) (a b:Nat) (z:List Value) (sh:Sh) (ss:List DSh) (r:List Leaf) (ks:List LV) (T:List (Nat×LV)) (H:HL) (nx nt:Nat):zmb tab ⟨T,H,nx,nt⟩ .nl (ss,r,ks) ⟨a,b,z,sh⟩=if 0 < b∧z.length=a∧0 < a∧ss.length=a then some ⟨b≤140737488355328,.os nx a 0 1 1 false,(nx,some (true,.foc ss [r] 0 ks)) :: H,nx+1⟩ else none:=rfl
theorem appF_os (tab:Tab) (a b id es len mc:Nat) (ex:Bool) (z:List Value) (sh:Sh) (ss:List DSh) (r:List Leaf) (ks:List LV) (T:List (Nat×LV)) (H:HL) (nx nt:Nat):zmb tab ⟨T,H,nx,nt⟩ (.os id es 0 len mc ex) (ss,r,ks) ⟨a,b,z,sh⟩=if 0 < b∧z.length=a∧0 < a∧ss.length=a then zyW a b es len ss r ks id (hp H id) ⟨T,H,nx,nt⟩ else none:=by
 unfold zmb zyW
 simp only
 split
 ·cases hp H id with
  | none=>rfl
  | some q =>
   obtain ⟨fr,o⟩:=q
   cases o<;>rfl
 ·rfl
theorem appFD_ (a b es len:Nat) (ss ss2:List DSh) (r:List Leaf) (ks:List LV) (id:Nat) (fr:Bool) (old:List (List Leaf)) (T:List (Nat×LV)) (H:HL) (nx nt:Nat):zyW a b es len ss r ks id (some (fr,.deep ss2 old)) ⟨T,H,nx,nt⟩=if a=es∧ks.all flat=true then some ⟨ss2=ss∧len=old.length∧(len+1) * b≤140737488355328,.os nx es 0 (len+1) (len+1) false,(nx,some (fr,.foc ss2 (old++[r]) len ks)) :: (id,none) :: H,nx+1⟩ else none:=rfl
theorem fy_nl (H:zkO):zrS H .nl=none:=rfl
theorem fy_lf (H:zkO) (t:Bool) (l:Leaf):zrS H (.lf t l)=none:=rfl
theorem fy_os (H:zkO) (id es lo len mc:Nat) (ex:Bool):zrS H (.os id es lo len mc ex)=zvU id lo len (H id):=rfl
theorem fx_none (id lo len:Nat):zvU id lo len none=none:=rfl
theorem fx_arr (id lo len:Nat) (fr t:Bool) (es:Nat) (rows:List (List Leaf)):zvU id lo len (some (fr,.arr t es rows))=none:=rfl
theorem fx_deep (id lo len:Nat) (fr:Bool) (ss:List DSh) (rows:List (List Leaf)):zvU id lo len (some (fr,.deep ss rows))=none:=rfl
theorem fx_foc (id:Nat) (fr:Bool) (ss:List DSh) (r:List Leaf) (ks:List LV):zvU id 0 1 (some (fr,.foc ss [r] 0 ks))=some (id,ss,r,ks):=rfl
theorem ds_sc:DSh.isSc .sc=true:=rfl
theorem ds_sl (ss:List DSh):DSh.isSc (.sl ss)=false:=rfl
theorem px_1 (T:List (Nat×LV)) (x:Operand):zpv T [(0,x)]=zlh (ev T x):=rfl
theorem bd_none (T:List (Nat×LV)) (es:Nat) (l:List (Nat×Operand)):zmG none T es l=none:=rfl
theorem bd_nil (ss:Option (List DSh)) (T:List (Nat×LV)) (es:Nat):zmG ss T es []=none:=by
 unfold zmG
 cases ss with
 | none=>rfl
 | some ss=>simp
theorem bd_some (ss:List DSh) (T:List (Nat×LV)) (es:Nat) (p:Nat×Operand) (l:List (Nat×Operand)):zmG (some ss) T es (p :: l)=if ss.all DSh.isSc=true then none else if ss.length=es then (match zlO T ss es (p :: l) with | some r=>some (ss,r) | none=>none) else none:=by
 show (if ss.all DSh.isSc=true then none else if ss.length=es then (zlO T ss es (p :: l)).map (λ r=>(ss,r)) else none)=_
 generalize zlO T ss es (p :: l)=o
 cases o<;>rfl
def pdP (ss:List DSh) (es:Nat) (ks:Option (List LV)) (r:Option (List (List Leaf))):Option (List (List Leaf)):=match ks,r with
 | some ks,some rows=>if ks.all LV.isN=true then (if ks.length=es then (match zna [] ss ks with
  | some (ls,[],_)=>some (ls :: rows)
  | _=>none) else none) else none
 | _,_=>none
theorem in_nl:LV.isN .nl=true:=rfl
theorem in_sc (t:Bool) (v:Value):LV.isN (.lf t (.sc v))=true:=rfl
theorem in_sl (t:Bool) (r:List (List Leaf)):LV.isN (.lf t (.sl r))=false:=rfl
theorem in_os (id es lo len mc:Nat) (ex:Bool):LV.isN (.os id es lo len mc ex)=false:=rfl
theorem in_un:LV.isN .un=false:=rfl
theorem pd_nil (T:List (Nat×LV)) (ss:List DSh) (es:Nat):zlO T ss es []=some []:=rfl
theorem pd_cons (T:List (Nat×LV)) (ss:List DSh) (es i:Nat) (x:Operand) (r:List (Nat×Operand)):zlO T ss es ((i,x) :: r)=pdP ss es (zlh (ev T x)) (zlO T ss es r):=rfl
theorem pdP_some (ss:List DSh) (es:Nat) (ks:List LV) (rows:List (List Leaf)):pdP ss es (some ks) (some rows)=if ks.all LV.isN=true then (if ks.length=es then (match zna [] ss ks with | some (ls,[],_)=>some (ls :: rows) | _=>none) else none) else none:=rfl
theorem pdP_none (ss:List DSh) (es:Nat) (ks:Option (List LV)):pdP ss es ks none=none:=by cases ks<;>rfl
theorem dz_none (ee:TE):zsZ none ee=none:=rfl
theorem dz_some (ss:List DSh) (a b:Nat) (z:List Value) (sh:Sh):zsZ (some ss) ⟨a,b,z,sh⟩=if ss.all DSh.isSc=true then none else if ss.length=a then dzP ss (zna [] ss (z.map zlg)) else none:=by
 unfold zsZ dzP;rfl
theorem dzP_ (ss:List DSh) (zl:List Leaf):dzP ss (some (zl,[],true))=some (ss,zl):=rfl
theorem dsh9 (tab:Tab) (t:Nat):zlw tab 9 t=zoZ tab 8 (zkm tab t):=by simp only [zlw];exact zne tab 8 _
theorem dsh8 (tab:Tab) (t:Nat):zlw tab 8 t=zoZ tab 7 (zkm tab t):=by simp only [zlw];exact zne tab 7 _
theorem dsh7 (tab:Tab) (t:Nat):zlw tab 7 t=zoZ tab 6 (zkm tab t):=by simp only [zlw];exact zne tab 6 _
theorem dsh6 (tab:Tab) (t:Nat):zlw tab 6 t=zoZ tab 5 (zkm tab t):=by simp only [zlw];exact zne tab 5 _
theorem dsh5 (tab:Tab) (t:Nat):zlw tab 5 t=zoZ tab 4 (zkm tab t):=by simp only [zlw];exact zne tab 4 _
theorem dsh4 (tab:Tab) (t:Nat):zlw tab 4 t=zoZ tab 3 (zkm tab t):=by simp only [zlw];exact zne tab 3 _
theorem dsh3 (tab:Tab) (t:Nat):zlw tab 3 t=zoZ tab 2 (zkm tab t):=by simp only [zlw];exact zne tab 2 _
theorem dsh2 (tab:Tab) (t:Nat):zlw tab 2 t=zoZ tab 1 (zkm tab t):=by simp only [zlw];exact zne tab 1 _
theorem dsh1 (tab:Tab) (t:Nat):zlw tab 1 t=zoZ tab 0 (zkm tab t):=by simp only [zlw];exact zne tab 0 _
theorem dA_int (tab:Tab) (n a b:Nat) (z:List Value) (k:IntKind):zoZ tab n (some ⟨a,b,z,.int k⟩)=some [.sc]:=rfl
theorem dA_bool (tab:Tab) (n a b:Nat) (z:List Value):zoZ tab n (some ⟨a,b,z,.bool⟩)=some [.sc]:=rfl
theorem dA_str (tab:Tab) (n a b:Nat) (z:List Value):zoZ tab n (some ⟨a,b,z,.str⟩)=some [.sc]:=rfl
theorem dA_sl (tab:Tab) (n a b el:Nat) (z:List Value):zoZ tab n (some ⟨a,b,z,.slice el⟩)=zyX (zlw tab n el):=rfl
theorem dA_st (tab:Tab) (n a b:Nat) (z:List Value) (fs:List (Nat×Nat)):zoZ tab n (some ⟨a,b,z,.struct fs⟩)=ztX tab n fs:=rfl
theorem dA_fl (tab:Tab) (n a b:Nat) (z:List Value):zoZ tab n (some ⟨a,b,z,.flat⟩)=none:=rfl
theorem dS_s (ss:List DSh):zyX (some ss)=some [.sl ss]:=rfl
theorem dS_n:zyX none=none:=rfl
theorem dT_nil (tab:Tab) (n:Nat):ztX tab n []=some []:=rfl
theorem dT_cons (tab:Tab) (n t o:Nat) (r:List (Nat×Nat)):ztX tab n ((t,o) :: r)=zAA (zlw tab n t) (ztX tab n r):=rfl
theorem dM_s (a b:List DSh):zAA (some a) (some b)=some (a++b):=rfl
theorem dM_n (b:Option (List DSh)):zAA none b=none:=rfl
theorem pk_ (T:List (Nat×LV)) (H:HL) (nx nt id:Nat):St.pack ⟨T,H,nx,nt⟩ id=zBj id (hp H id) ⟨T,H,nx,nt⟩:=rfl
theorem pkA_ (id p:Nat) (fr:Bool) (ss:List DSh) (rows:List (List Leaf)) (ks:List LV) (T:List (Nat×LV)) (H:HL) (nx nt:Nat):zBj id (some (fr,.foc ss rows p ks)) ⟨T,H,nx,nt⟩=zyY id fr ss rows p (zna H ss ks) ⟨T,H,nx,nt⟩:=rfl
theorem pkB_ (id p:Nat) (fr f:Bool) (ss:List DSh) (rows:List (List Leaf)) (ls:List Leaf) (kl:List Nat) (T:List (Nat×LV)) (H:HL) (nx nt:Nat):zyY id fr ss rows p (some (ls,kl,f)) ⟨T,H,nx,nt⟩=if (inN id kl || ztL kl)=false then ⟨T,(id,some (fr && f,.deep ss (rows.set p ls))) :: zoQ kl H,nx,nt⟩ else ⟨T,H,nx,nt⟩:=rfl
theorem pkL_nil (H:HL):zna H [] []=some ([],[],true):=rfl
theorem pkL_cons (H:HL) (s:DSh) (ss:List DSh) (k:LV) (ks:List LV):zna H (s :: ss) (k :: ks)=zyZ (zrM H s k) (zna H ss ks):=rfl
theorem pkM_s (l:Leaf) (n:Nat) (f g:Bool) (ls:List Leaf) (kl:List Nat):zyZ (some (l,some n,f)) (some (ls,kl,g))=some (l :: ls,n :: kl,f && g):=rfl
theorem pkM_n (l:Leaf) (f g:Bool) (ls:List Leaf) (kl:List Nat):zyZ (some (l,none,f)) (some (ls,kl,g))=some (l :: ls,kl,f && g):=rfl
theorem pkC_sc (H:HL) (t:Bool) (v:Value):zrM H .sc (.lf t (.sc v))=some (.sc v,none,true):=rfl
theorem pkC_nl (H:HL) (ss:List DSh):zrM H (.sl ss) .nl=some (.sl [],none,true):=rfl
theorem pkC_os (H:HL) (ss:List DSh) (k es lo len mc:Nat) (ex:Bool):zrM H (.sl ss) (.os k es lo len mc ex)=zy0 ss k es lo (hp H k):=rfl
theorem pkO_arr (ss:List DSh) (k es lo:Nat) (fr t:Bool) (es':Nat) (rows:List (List Leaf)):zy0 ss k es lo (some (fr,.arr t es' rows))=if es=ss.length∧es'=es∧lo=0∧0 < es∧ss.all DSh.isSc=true then some (.sl rows,some k,fr) else none:=rfl
theorem pkO_deep (ss:List DSh) (k es lo:Nat) (fr:Bool) (s2:List DSh) (rows:List (List Leaf)):zy0 ss k es lo (some (fr,.deep s2 rows))=if es=ss.length∧lo=0∧0 < es then some (.sl rows,some k,fr) else none:=rfl
theorem pkP_ (H:HL) (id:Nat):zoR H id=zy1 H (hp H id):=rfl
theorem pkPO_ (H:HL) (fr:Bool) (ss:List DSh) (rows:List (List Leaf)) (p:Nat) (ks:List LV):zy1 H (some (fr,.foc ss rows p ks))=znX H ss ks:=rfl
theorem pkQs_nil (H:HL):znX H [] []=True:=rfl
theorem pkQs_cons (H:HL) (s:DSh) (ss:List DSh) (k:LV) (ks:List LV):znX H (s :: ss) (k :: ks)=(zpW H s k∧znX H ss ks):=rfl
theorem pkQ_sc (H:HL) (k:LV):zpW H .sc k=True:=by cases k<;>rfl
theorem pkQ_nl (H:HL) (ss:List DSh):zpW H (.sl ss) .nl=True:=rfl
theorem pkQ_os (H:HL) (ss:List DSh) (k es lo len mc:Nat) (ex:Bool):zpW H (.sl ss) (.os k es lo len mc ex)=zv4 ss len (hp H k):=rfl
theorem pkQO_arr (ss:List DSh) (len:Nat) (fr t:Bool) (es':Nat) (rows:List (List Leaf)):zv4 ss len (some (fr,.arr t es' rows))=(len=rows.length∧zoE rows):=rfl
theorem pkQO_deep (ss:List DSh) (len:Nat) (fr:Bool) (s2:List DSh) (rows:List (List Leaf)):zv4 ss len (some (fr,.deep s2 rows))=(s2=ss∧len=rows.length):=rfl
theorem inN_nil (x:Nat):inN x []=false:=rfl
theorem inN_cons (x y:Nat) (r:List Nat):inN x (y :: r)=((x == y) || inN x r):=rfl
theorem dupN_nil:ztL []=false:=rfl
theorem dupN_cons (x:Nat) (r:List Nat):ztL (x :: r)=(inN x r || ztL r):=rfl
theorem kill_nil (H:HL):zoQ [] H=H:=rfl
theorem kill_cons (k:Nat) (r:List Nat) (H:HL):zoQ (k :: r) H=(k,none) :: zoQ r H:=rfl
theorem fo_ (T:List (Nat×LV)) (H:HL) (nx nt id p:Nat):St.focus ⟨T,H,nx,nt⟩ id p=zCe id p (hp H id) ⟨T,H,nx,nt⟩:=rfl
theorem foA_ (id p:Nat) (fr:Bool) (ss:List DSh) (rows:List (List Leaf)) (T:List (Nat×LV)) (H:HL) (nx nt:Nat):zCe id p (some (fr,.deep ss rows)) ⟨T,H,nx,nt⟩=⟨T,(id,some (fr,.foc ss rows p (zpn ss (rows.getD p []) nx))) :: zpU fr ss (rows.getD p []) nx H,nx+ss.length,nt⟩:=rfl
theorem foP_ (H:HL) (id p:Nat):zrL H id p=zBk p (hp H id):=rfl
theorem foPO_ (p:Nat) (fr:Bool) (ss:List DSh) (rows:List (List Leaf)):zBk p (some (fr,.deep ss rows))=(p < rows.length):=rfl
theorem foL_nil (r:List Leaf) (nx:Nat):zpn [] r nx=[]:=by cases r<;>rfl
theorem foL_cons (s:DSh) (ss:List DSh) (l:Leaf) (r:List Leaf) (nx:Nat):zpn (s :: ss) (l :: r) nx=zyy s l nx :: zpn ss r (nx+1):=rfl
theorem foH_nil (fr:Bool) (r:List Leaf) (nx:Nat) (H:HL):zpU fr [] r nx H=H:=by cases r<;>rfl
theorem foH_cons (fr:Bool) (s:DSh) (ss:List DSh) (l:Leaf) (r:List Leaf) (nx:Nat) (H:HL):zpU fr (s :: ss) (l :: r) nx H=(nx,zuA fr s l) :: zpU fr ss r (nx+1) H:=rfl
theorem foC_sc (v:Value) (nx:Nat):zyy .sc (.sc v) nx=.lf false (.sc v):=rfl
theorem foC_sl (ss:List DSh) (rows:List (List Leaf)) (nx:Nat):zyy (.sl ss) (.sl rows) nx=.os nx ss.length 0 rows.length rows.length false:=rfl
theorem foO_sc (fr:Bool) (l:Leaf):zuA fr .sc l=none:=by cases l<;>rfl
theorem foO_sl (fr:Bool) (ss:List DSh) (rows:List (List Leaf)):zuA fr (.sl ss) (.sl rows)=some (fr,znG ss rows):=rfl
theorem inOb (ss:List DSh) (rows:List (List Leaf)):znG ss rows=if ss.all DSh.isSc=true then .arr false ss.length rows else .deep ss rows:=rfl
theorem appB_ (a b:Nat) (z:List Value) (sh:Sh) (x y:LV) (tx:Bool) (rows:List (List Leaf)) (s:St):zBB (some ⟨a,b,z,sh⟩) x y (some (tx,rows)) s=if 0 < b∧z.length=a then zAy ⟨a,b,z,sh⟩ x y tx rows s else none:=rfl
theorem appC_nl (a b:Nat) (z:List Value) (sh:Sh) (y:LV) (tx:Bool) (rows:List (List Leaf)) (T:List (Nat×LV)) (H:HL) (nx nt:Nat):zAy ⟨a,b,z,sh⟩ .nl y tx rows ⟨T,H,nx,nt⟩=some ⟨(∀ r∈rows,r.length=a)∧rows.length * b≤140737488355328,.os nx a 0 rows.length rows.length false,(nx,some (true,.arr tx a rows)) :: H,nx+1⟩:=rfl
theorem appC_os (a b:Nat) (z:List Value) (sh:Sh) (id es lo len mc:Nat) (y:LV) (ex tx:Bool) (rows:List (List Leaf)) (T:List (Nat×LV)) (H:HL) (nx nt:Nat):zAy ⟨a,b,z,sh⟩ (.os id es lo len mc ex) y tx rows ⟨T,H,nx,nt⟩=zBA ⟨a,b,z,sh⟩ (zrR (.os id es lo len mc ex) y (len+rows.length)) es lo len tx rows id (hp H id) ⟨T,H,nx,nt⟩:=rfl
theorem appD_ (a b rm:Nat) (z:List Value) (sh:Sh) (es lo len:Nat) (tx:Bool) (rows:List (List Leaf)) (id:Nat) (fr t1:Bool) (es':Nat) (old:List (List Leaf)) (T:List (Nat×LV)) (H:HL) (nx nt:Nat):zBA ⟨a,b,z,sh⟩ rm es lo len tx rows id (some (fr,.arr t1 es' old)) ⟨T,H,nx,nt⟩=if a=es∧es'=es then
      some ⟨lo+len≤old.length∧(∀ r∈rows,r.length=es)∧(len+rows.length) * b≤140737488355328,.os nx es 0 (len+rows.length) rm false,
        (nx,some (fr,.arr (t1 || tx) es ((old.drop lo).take len++rows))) :: (id,none) :: H,nx+1⟩ else none:=rfl
theorem clr_ (tab:Tab) (s:St) (x:Operand) (t:Nat):zoU tab s [x] [t]=zCd tab (zkm tab t) (ev s.T x) s:=rfl
theorem clrA_ (tab:Tab) (a b el:Nat) (z:List Value) (x:LV) (s:St):zCd tab (some ⟨a,b,z,.slice el⟩) x s=zBF (zkm tab el) x s:=rfl
theorem clrB_ (a b:Nat) (z:List Value) (sh:Sh) (id es lo len mc:Nat) (ex:Bool) (s:St):zBF (some ⟨a,b,z,sh⟩) (.os id es lo len mc ex) s=zBE ⟨a,b,z,sh⟩ es lo (hp s.H id) (zlG (z.map zlg)) s:=rfl
theorem clrC_ (a b:Nat) (z:List Value) (sh:Sh) (es lo:Nat) (fr t:Bool) (es':Nat) (old:List (List Leaf)) (zl:List Leaf) (s:St):zBE ⟨a,b,z,sh⟩ es lo (some (fr,.arr t es' old)) (some (false,zl)) s=if z.length=a∧a=es∧es'=es then some ⟨old.length≤lo,.un,s.H,s.nx⟩ else none:=rfl
theorem rm_lf (id es lo len mc:Nat) (ex t:Bool) (l:Leaf) (n:Nat):zrR (.os id es lo len mc ex) (.lf t l) n=n:=rfl
theorem rm_nl (id es lo len mc:Nat) (ex:Bool) (n:Nat):zrR (.os id es lo len mc ex) .nl n=n:=rfl
theorem rm_os (id es lo len mc id' es' lo' len' mc':Nat) (ex ex':Bool) (n:Nat):zrR (.os id es lo len mc ex) (.os id' es' lo' len' mc' ex') n=if id=id' then max n mc else n:=rfl
theorem src_lf (H:zkO) (t:Bool) (rows:List (List Leaf)):zlR H (.lf t (.sl rows))=some (t,rows):=rfl
theorem src_nl (H:zkO):zlR H .nl=some (false,[]):=rfl
theorem src_os (H:zkO) (id es lo len mc:Nat) (ex:Bool):zlR H (.os id es lo len mc ex)=zCc es lo len (H id):=rfl
theorem srcA_ (es lo len:Nat) (fr t:Bool) (es':Nat) (rows:List (List Leaf)):zCc es lo len (some (fr,.arr t es' rows))=if es'=es∧lo+len≤rows.length then some (t,(rows.drop lo).take len) else none:=rfl
theorem sc_tu (l:List LV):sc? (.tu l)=none:=rfl
theorem wkT_nil (ρ:Ren) (T:List (Nat×LV)):wkT ρ T []=True:=rfl
theorem wkT_cons (ρ:Ren) (T:List (Nat×LV)) (t:Nat) (lv:LV) (r:List (Nat×LV)):wkT ρ T ((t,lv) :: r)=(wk ρ (tv T t) lv∧wkT ρ T r):=rfl
theorem wkHs_nil (ρ:Ren) (H:zkO):zri ρ H []=True:=rfl
theorem wkHs_some (ρ:Ren) (H:zkO) (i:Nat) (o:Bool×Ob) (r:HL):zri ρ H ((i,some o) :: r)=(zxw ρ H (ρ[i]?) o∧zri ρ H r):=by
 have:wkH ρ H i o=zxw ρ H (ρ[i]?) o:=by
  unfold wkH
  rcases ρ[i]? with _ | _ | id
  ·rfl
  ·obtain ⟨fr,o⟩:=o
   cases o with
   | box ls=>exact propext ⟨λ h=>(by rcases h with ⟨t',es',h⟩ | ⟨ss,h⟩<;>cases h),λ h=>h.elim⟩
   | arr t es rows=>exact propext ⟨λ h=>(by rcases h with ⟨t',es',h⟩ | ⟨ss,h⟩<;>cases h;rfl),λ h=>.inl ⟨t,es,(by rw [show rows=[] from h])⟩⟩
   | deep ss rows=>exact propext ⟨λ h=>(by rcases h with ⟨t',es',h⟩ | ⟨ss,h⟩<;>cases h;rfl),λ h=>.inr ⟨ss,(by rw [show rows=[] from h])⟩⟩
   | foc ss rows p ks=>exact propext ⟨λ h=>(by rcases h with ⟨t',es',h⟩ | ⟨ss,h⟩<;>cases h),λ h=>h.elim⟩
  ·simp only [zxw]
   rcases H id with _ | ⟨fr,o'⟩
   ·exact propext ⟨λ ⟨fr,o,h,_⟩=>(by cases h),λ h=>h.elim⟩
   ·refine propext ⟨λ ⟨fr2,o2,h,h1,h2⟩=>?_,λ h=>⟨_,_,rfl,h⟩⟩
    cases h
    exact ⟨h1,h2⟩
 rw [← this]
 rfl
theorem wkHs_none (ρ:Ren) (H:zkO) (i:Nat) (r:HL):zri ρ H ((i,none) :: r)=zri ρ H r:=rfl
theorem wkHa_some (ρ:Ren) (H:zkO) (id:Nat) (o:Bool×Ob):zxw ρ H (some (some id)) o=zBz ρ (H id) o:=rfl
theorem wkHa_none (ρ:Ren) (H:zkO) (fr t:Bool) (es:Nat) (rows:List (List Leaf)):zxw ρ H (some none) (fr,.arr t es rows)=(rows=[]):=rfl
theorem wkHa_nd (ρ:Ren) (H:zkO) (fr:Bool) (ss:List DSh) (rows:List (List Leaf)):zxw ρ H (some none) (fr,.deep ss rows)=(rows=[]):=rfl
theorem wkHb_some (ρ:Ren) (fr fr2:Bool) (o o2:Ob):zBz ρ (some (fr,o)) (fr2,o2)=((fr2=fr∨fr2=false)∧zsO ρ o o2):=rfl
theorem wkOb_box (ρ:Ren) (l l':List LV):zsO ρ (.box l) (.box l')=wks ρ l l':=rfl
theorem wkOb_arr (ρ:Ren) (t t':Bool) (es es':Nat) (r r':List (List Leaf)):zsO ρ (.arr t es r) (.arr t' es' r')=(tOk t t' r∧es'=es∧r'=r):=rfl
theorem wkOb_deep (ρ:Ren) (ss ss':List DSh) (r r':List (List Leaf)):zsO ρ (.deep ss r) (.deep ss' r')=(ss'=ss∧r'=r):=rfl
theorem mcOk_eq (n len:Nat) (ex:Bool):zxx n n len ex false=True:=eq_true (.inr ⟨Nat.le_max_right _ _,rfl⟩)
theorem mcOk_len (mc n:Nat) (ex:Bool):zxx mc n n ex false=True:=eq_true (.inr ⟨Nat.le_max_left _ _,rfl⟩)
theorem mcOk_same (n len:Nat) (ex:Bool):zxx n n len ex ex=True:=eq_true (.inl ⟨rfl,rfl⟩)
theorem mcOk_f (mc mc' len:Nat) (ex:Bool):zxx mc mc' len ex false=(mc'≤max len mc):=propext ⟨λ h=>h.elim (λ h=>by omega) (·.1),λ h=>.inr ⟨h,rfl⟩⟩
theorem tOk_f (t':Bool) (r:List (List Leaf)):tOk false t' r=True:=eq_true (.inl λ h=>by cases h)
theorem tOk_t (t:Bool) (r:List (List Leaf)):tOk t true r=True:=eq_true (.inl λ _=>rfl)
theorem tOk_b (t:Bool) (r:List (List Leaf)):tOk t t r=True:=eq_true (.inl id)
theorem tOk_tf (r:List (List Leaf)):tOk true false r=zoE r:=propext ⟨λ h=>h.elim (λ h=>by cases h rfl) id,.inr⟩
theorem flat_nil:zoE []=True:=eq_true λ r hr=>by simp at hr
theorem wks_nil (ρ:Ren):wks ρ [] []=True:=rfl
theorem wks_cons (ρ:Ren) (a b:LV) (r q:List LV):wks ρ (a :: r) (b :: q)=(wk1 ρ a b∧wks ρ r q):=rfl
theorem w1_un (ρ:Ren) (a:LV):wk1 ρ a .un=True:=rfl
theorem w1_lf (ρ:Ren) (t t':Bool) (l l':Leaf):wk1 ρ (.lf t l) (.lf t' l')=((t=true→t'=true)∧l=l'):=rfl
theorem w1_nf (ρ:Ren) (t':Bool) (l':Leaf):wk1 ρ .nl (.lf t' l')=(l'=.sl []):=rfl
theorem w1_nl (ρ:Ren):wk1 ρ .nl .nl=True:=eq_true rfl
theorem w1_os (ρ:Ren) (id id' es es' lo lo' len len' mc mc':Nat) (ex ex':Bool):wk1 ρ (.os id es lo len mc ex) (.os id' es' lo' len' mc' ex')=(ρ[id']?=some (some id)∧es'=es∧lo'=lo∧len'=len∧zxx mc mc' len ex ex'):=rfl
theorem w1_no (ρ:Ren) (id' es' lo' len' mc':Nat) (ex':Bool):wk1 ρ .nl (.os id' es' lo' len' mc' ex')=(id' < ρ.length∧lo'=0∧len'=0∧mc'=0):=rfl
theorem w1_pb (ρ:Ren) (id off id' off':Nat):wk1 ρ (.pb id off) (.pb id' off')=(ρ[id']?=some (some id)∧off'=off):=rfl
theorem w1_pe (ρ:Ren) (id es i off id' es' i' off':Nat):wk1 ρ (.pe id es i off) (.pe id' es' i' off')=(ρ[id']?=some (some id)∧es'=es∧i'=i∧off'=off):=rfl
theorem w1_ra (ρ:Ren) (t t':Bool) (l l':List Leaf):wk1 ρ (.ra t l) (.ra t' l')=((t=true→t'=true)∧l=l'):=rfl
theorem wk_un (ρ:Ren) (a:LV):wk ρ a .un=True:=rfl
theorem wk_lf (ρ:Ren) (t t':Bool) (l l':Leaf):wk ρ (.lf t l) (.lf t' l')=((t=true→t'=true)∧l=l'):=rfl
theorem wk_nf (ρ:Ren) (t':Bool) (l':Leaf):wk ρ .nl (.lf t' l')=(l'=.sl []):=rfl
theorem wk_nl (ρ:Ren):wk ρ .nl .nl=True:=eq_true rfl
theorem wk_os (ρ:Ren) (id id' es es' lo lo' len len' mc mc':Nat) (ex ex':Bool):wk ρ (.os id es lo len mc ex) (.os id' es' lo' len' mc' ex')=(ρ[id']?=some (some id)∧es'=es∧lo'=lo∧len'=len∧zxx mc mc' len ex ex'):=rfl
theorem wk_no (ρ:Ren) (id' es' lo' len' mc':Nat) (ex':Bool):wk ρ .nl (.os id' es' lo' len' mc' ex')=(id' < ρ.length∧lo'=0∧len'=0∧mc'=0):=rfl
theorem wk_pb (ρ:Ren) (id off id' off':Nat):wk ρ (.pb id off) (.pb id' off')=(ρ[id']?=some (some id)∧off'=off):=rfl
theorem wk_pe (ρ:Ren) (id es i off id' es' i' off':Nat):wk ρ (.pe id es i off) (.pe id' es' i' off')=(ρ[id']?=some (some id)∧es'=es∧i'=i∧off'=off):=rfl
theorem wk_ra (ρ:Ren) (t t':Bool) (l l':List Leaf):wk ρ (.ra t l) (.ra t' l')=((t=true→t'=true)∧l=l'):=rfl
theorem wk_ag (ρ:Ren) (l l':List LV):wk ρ (.ag l) (.ag l')=wks ρ l l':=rfl
theorem wk_fn (ρ:Ren) (f f':FuncId) (l l':List LV):wk ρ (.fn f l) (.fn f' l')=(f=f'∧wks ρ l l'):=rfl
end S
theorem zBG (b:Bool):(b=true→true=true)=True:=eq_true λ _=>rfl
theorem zBH (b:Bool):(false=true→b=true)=True:=eq_true λ h=>by cases h
theorem zBJ (b:Bool):(b=true→b=true)=True:=eq_true id
attribute [irreducible] zCb
end Go.TL

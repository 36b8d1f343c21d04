import Derived.Test.YteonagfnhdlfcaaGreatDoorG11TlUse
set_option linter.unusedSimpArgs false
set_option linter.unusedVariables false
noncomputable section
namespace Go.TL
open Go
def zB0 {α:Type} (S:α→St) (pre:α→Prop) (meas:α→Nat):Nat→St→Prop:=λ n s=>∃ a,pre a∧meas a=n∧s=S a
def zBq (ρ:Ren):Option (Bool×Ob)→Bool×Ob→Prop
 | some (fr,o),o2=>(o2.1=fr∨o2.1=false)∧zso ρ o o2.2
 | none,_=>False
def zxr (ρ:Ren) (H:zkd):Option (Option Nat)→Bool×Ob→Prop
 | some (some id),o2=>zBq ρ (H id) o2
 | some none,o2=>(match o2.2 with | .arr _ _ rows=>rows=[] | .deep _ rows=>rows=[] | _=>False)
 | none,_=>False
def zBr (ee:TE) (rm:Nat) (es lo len:Nat) (tx:Bool) (rows:List (List Leaf)) (id:Nat) (o:Option (Bool×Ob)) (s:St):Option Res:=match o with
 | some (fr,.arr t1 es' old)=>if ee.size=es∧es'=es then
   some ⟨lo+len≤old.length∧(∀ r∈rows,r.length=es)∧(len+rows.length) * ee.bytes≤140737488355328,.os s.nx es 0 (len+rows.length) rm false,
    (s.nx,some (fr,.arr (t1 || tx) es ((old.drop lo).take len++rows))) :: (id,none) :: s.H,s.nx+1⟩ else none
 | _=>none
def zAn (ee:TE) (x y:LV) (tx:Bool) (rows:List (List Leaf)) (s:St):Option Res:=match x with
 | .nl=>some ⟨(∀ r∈rows,r.length=ee.size)∧rows.length * ee.bytes≤140737488355328,.os s.nx ee.size 0 rows.length rows.length false,(s.nx,some (true,.arr tx ee.size rows)) :: s.H,s.nx+1⟩
 | .os id es lo len _ _=>zBr ee (zrs x y (len+rows.length)) es lo len tx rows id (hp s.H id) s
 | _=>none
def zBs (ee:Option TE) (x y:LV) (src:Option (Bool×List (List Leaf))) (s:St):Option Res:=match ee,src with
 | some ee,some (tx,rows)=>if 0 < ee.bytes∧ee.zero.length=ee.size then zAn ee x y tx rows s else none
 | _,_=>none
def zBt (tab:Tab) (ee:TE) (x:LV) (id:Nat) (o:Option (Nat×List DSh×List Leaf×List LV)) (s:St):Option Res:=match o with
 | some q2=>zqY (zok s.H id) (zlA tab (zom s.H s.nx id) x q2.2 ee)
 | none=>none
def zAo (tab:Tab) (ee:TE) (x y:LV) (q:Nat×List DSh×List Leaf×List LV) (o:Option Nat) (s:St):Option Res:=match o with
 | some id=>zBt tab ee x id (zrt (hp (zom s.H s.nx id).H) y) s
 | none=>zlA tab s x q.2 ee
def zwN (tab:Tab) (ee:Option TE) (x y:LV) (fy:Option (Nat×List DSh×List Leaf×List LV)) (src:Option (Bool×List (List Leaf))) (s:St):Option Res:=match fy with
 | some q=>match ee with
  | some ee=>zAo tab ee x y q (zyx (hp s.H) x) s
  | none=>none
 | none=>zBs ee x y src s
def zyR (a b es len:Nat) (ss:List DSh) (r:List Leaf) (ks:List LV) (id:Nat) (o:Option (Bool×Ob)) (s:St):Option Res:=match o with
 | some (fr,.deep ss2 old)=>if a=es∧ks.all flat=true then some ⟨ss2=ss∧len=old.length∧(len+1) * b≤140737488355328,.os s.nx es 0 (len+1) (len+1) false,(s.nx,some (fr,.foc ss2 (old++[r]) len ks)) :: (id,none) :: s.H,s.nx+1⟩ else none
 | _=>none
def zBu (tab:Tab) (a b:Option TE) (x y:LV) (fy:Option (Nat×List DSh×List Leaf×List LV)) (src:Option (Bool×List (List Leaf))) (s:St):Option Res:=match a,b with
 | some e,some e2=>match e.sh,e2.sh with
  | .slice el,.slice _=>zwN tab (zjT tab el) x y fy src s
  | _,_=>none
 | _,_=>none
def zB1 (es lo len:Nat) (o:Option (Bool×Ob)):Option (Bool×List (List Leaf)):=match o with
 | some (_,.arr t es' rows)=>if es'=es∧lo+len≤rows.length then some (t,(rows.drop lo).take len) else none
 | _=>none
def zBv (ee:TE) (es lo:Nat) (o:Option (Bool×Ob)) (q:Option (Bool×List Leaf)) (s:St):Option Res:=match o,q with
 | some (_,.arr _ es' old),some (false,_)=>if ee.zero.length=ee.size∧ee.size=es∧es'=es then some ⟨old.length≤lo,.un,s.H,s.nx⟩ else none
 | _,_=>none
def zBw (ee:Option TE) (x:LV) (s:St):Option Res:=match ee,x with
 | some ee,.os id es lo _ _ _=>zBv ee es lo (hp s.H id) (zk2 (ee.zero.map zkC)) s
 | _,_=>none
def zB2 (tab:Tab) (a:Option TE) (x:LV) (s:St):Option Res:=match a with
 | some e=>match e.sh with
  | .slice el=>zBw (zjT tab el) x s
  | _=>none
 | none=>none
def zxs (mc mc' len:Nat) (ex ex':Bool):Prop:=(mc'=mc∧ex'=ex)∨(mc'≤max len mc∧ex'=false)
def tOk (t t':Bool) (r:List (List Leaf)):Prop:=(t=true→t'=true)∨zn7 r
def dzP (ss:List DSh):Option (List Leaf×List Nat×Bool)→Option (List DSh×List Leaf)
 | some (zl,[],true)=>some (ss,zl)
 | _=>none
def zyS:Option (List DSh)→Option (List DSh)
 | some ss=>some [.sl ss]
 | none=>none
def zAp:Option (List DSh)→Option (List DSh)→Option (List DSh)
 | some a,some b=>some (a++b)
 | _,_=>none
def ztM (tab:Tab) (n:Nat):List (Nat×Nat)→Option (List DSh)
 | []=>some []
 | (t,_) :: r=>zAp (zkT tab n t) (ztM tab n r)
def zos (tab:Tab) (n:Nat):Option TE→Option (List DSh)
 | some e=>match e.sh with
  | .int _=>some [.sc]
  | .bool=>some [.sc]
  | .str=>some [.sc]
  | .slice el=>zyS (zkT tab n el)
  | .struct fs=>ztM tab n fs
  | _=>none
 | none=>none
theorem zwO (tab:Tab) (n:Nat):∀ fs,zux (zkT tab n) fs=ztM tab n fs
 | []=>rfl
 | (t,o) :: r=>by
  simp only [zux,ztM,zwO tab n r]
  cases zkT tab n t<;>cases ztM tab n r<;>rfl
theorem zmO (tab:Tab) (n:Nat) (e:Option TE):(match e with
  | some e=>match e.sh with
   | .int _=>some [.sc]
   | .bool=>some [.sc]
   | .str=>some [.sc]
   | .slice el=>(zkT tab n el).map λ ss=>[.sl ss]
   | .struct fs=>zux (zkT tab n) fs
   | _=>none
  | none=>none)=zos tab n e:=by
 cases e with
 | none=>rfl
 | some e =>
  unfold zos
  simp only
  have hm:∀ x:Option (List DSh),x.map (λ ss=>[DSh.sl ss])=zyS x:=λ x=>by cases x<;>rfl
  cases e.sh<;>(try rfl)
  ·exact hm _
  ·exact zwO tab n _
def zyT (id:Nat) (fr:Bool) (ss:List DSh) (rows:List (List Leaf)) (p:Nat) (q:Option (List Leaf×List Nat×Bool)) (s:St):St:=match q with
 | some (ls,kl,f)=>if (inN id kl || ztz kl)=false then ⟨s.T,(id,some (fr && f,.deep ss (rows.set p ls))) :: zoj kl s.H,s.nx,s.nt⟩ else s
 | none=>s
def zA7 (id:Nat) (o:Option (Bool×Ob)) (s:St):St:=match o with
 | some (fr,.foc ss rows p ks)=>zyT id fr ss rows p (zmJ s.H ss ks) s
 | _=>s
def zyU:Option (Leaf×Option Nat×Bool)→Option (List Leaf×List Nat×Bool)→Option (List Leaf×List Nat×Bool)
 | some (l,some n,f),some (ls,kl,g)=>some (l :: ls,n :: kl,f && g)
 | some (l,none,f),some (ls,kl,g)=>some (l :: ls,kl,f && g)
 | _,_=>none
def zyV (ss:List DSh) (k es lo:Nat):Option (Bool×Ob)→Option (Leaf×Option Nat×Bool)
 | some (fr,.arr _ es' rows)=>if es=ss.length∧es'=es∧lo=0∧0 < es∧ss.all DSh.isSc=true then some (.sl rows,some k,fr) else none
 | some (fr,.deep _ rows)=>if es=ss.length∧lo=0∧0 < es then some (.sl rows,some k,fr) else none
 | _=>none
def zyW (H:HL):Option (Bool×Ob)→Prop
 | some (_,.foc ss _ _ ks)=>znp H ss ks
 | _=>True
def zvW (ss:List DSh) (len:Nat):Option (Bool×Ob)→Prop
 | some (_,.arr _ _ rows)=>len=rows.length∧zn7 rows
 | some (_,.deep s2 rows)=>s2=ss∧len=rows.length
 | _=>True
def zB3 (id p:Nat) (o:Option (Bool×Ob)) (s:St):St:=match o with
 | some (fr,.deep ss rows)=>⟨s.T,(id,some (fr,.foc ss rows p (zoW ss (rows.getD p []) s.nx))) :: zps fr ss (rows.getD p []) s.nx s.H,s.nx+ss.length,s.nt⟩
 | _=>s
def zA8 (p:Nat):Option (Bool×Ob)→Prop
 | some (_,.deep _ rows)=>p < rows.length
 | _=>True
namespace S
theorem app_ (tab:Tab) (s:St) (x y:Operand) (t u:Nat):zmo tab s [x,y] [t,u]=zBu tab (zjT tab t) (zjT tab u) (ev s.T x) (ev s.T y) (zrt (hp s.H) (ev s.T y)) (zla (hp s.H) (ev s.T y)) s:=by
 unfold zmo zBu
 simp only
 cases zjT tab t with
 | none=>rfl
 | some e =>
  cases zjT tab u with
  | none=>rfl
  | some e2 =>
   simp only
   cases e.sh<;>cases e2.sh<;>(try rfl)
theorem appA_ (tab:Tab) (a b a' b' el el':Nat) (z z':List Value) (x y:LV) (fy:Option (Nat×List DSh×List Leaf×List LV)) (src:Option (Bool×List (List Leaf))) (s:St):zBu tab (some ⟨a,b,z,.slice el⟩) (some ⟨a',b',z',.slice el'⟩) x y fy src s=zwN tab (zjT tab el) x y fy src s:=rfl
theorem appA2_n (tab:Tab) (ee:Option TE) (x y:LV) (src:Option (Bool×List (List Leaf))) (s:St):zwN tab ee x y none src s=zBs ee x y src s:=rfl
theorem appA2_f (tab:Tab) (ee:TE) (x y:LV) (q:Nat×List DSh×List Leaf×List LV) (src:Option (Bool×List (List Leaf))) (s:St):zwN tab (some ee) x y (some q) src s=zAo tab ee x y q (zyx (hp s.H) x) s:=rfl
theorem appP_n (tab:Tab) (ee:TE) (x y:LV) (q:Nat×List DSh×List Leaf×List LV) (s:St):zAo tab ee x y q none s=zlA tab s x q.2 ee:=rfl
theorem appP_s (tab:Tab) (ee:TE) (x y:LV) (q:Nat×List DSh×List Leaf×List LV) (id:Nat) (s:St):zAo tab ee x y q (some id) s=zBt tab ee x id (zrt (hp (zom s.H s.nx id).H) y) s:=rfl
theorem appQ_ (tab:Tab) (ee:TE) (x:LV) (id:Nat) (q2:Nat×List DSh×List Leaf×List LV) (s:St):zBt tab ee x id (some q2) s=zqY (zok s.H id) (zlA tab (zom s.H s.nx id) x q2.2 ee):=rfl
theorem packS_ (H:HL) (nx id:Nat):zom H nx id=St.pack ⟨[],H,nx,0⟩ id:=rfl
theorem prePack_ (p a:Prop) (v:LV) (H:HL) (nx:Nat):zqY p (some ⟨a,v,H,nx⟩)=some ⟨p∧a,v,H,nx⟩:=rfl
theorem fi_nl (H:zkd):zyx H .nl=none:=rfl
theorem fi_os (H:zkd) (id es lo len mc:Nat) (ex:Bool):zyx H (.os id es lo len mc ex)=zsJ id (H id):=rfl
theorem fio_foc (id:Nat) (fr:Bool) (ss:List DSh) (rows:List (List Leaf)) (p:Nat) (ks:List LV):zsJ id (some (fr,.foc ss rows p ks))=some id:=rfl
theorem fio_deep (id:Nat) (fr:Bool) (ss:List DSh) (rows:List (List Leaf)):zsJ id (some (fr,.deep ss rows))=none:=rfl
theorem fio_arr (id:Nat) (fr t:Bool) (es:Nat) (rows:List (List Leaf)):zsJ id (some (fr,.arr t es rows))=none:=rfl
theorem fio_none (id:Nat):zsJ id none=none:=rfl
theorem appF_nl (tab:Tab) (a b:Nat) (z:List Value) (sh:Sh) (ss:List DSh) (r:List Leaf) (ks:List LV) (T:List (Nat×LV)) (H:HL) (nx nt:Nat):zlA tab ⟨T,H,nx,nt⟩ .nl (ss,r,ks) ⟨a,b,z,sh⟩=if 0 < b∧z.length=a∧0 < a∧ss.length=a then some ⟨b≤140737488355328,.os nx a 0 1 1 false,(nx,some (true,.foc ss [r] 0 ks)) :: H,nx+1⟩ else none:=rfl
theorem appF_os (tab:Tab) (a b id es len mc:Nat) (ex:Bool) (z:List Value) (sh:Sh) (ss:List DSh) (r:List Leaf) (ks:List LV) (T:List (Nat×LV)) (H:HL) (nx nt:Nat):zlA tab ⟨T,H,nx,nt⟩ (.os id es 0 len mc ex) (ss,r,ks) ⟨a,b,z,sh⟩=if 0 < b∧z.length=a∧0 < a∧ss.length=a then zyR a b es len ss r ks id (hp H id) ⟨T,H,nx,nt⟩ else none:=by
 unfold zlA zyR
 simp only
 split
 ·cases hp H id with
  | none=>rfl
  | some q =>
   obtain ⟨fr,o⟩:=q
   cases o<;>rfl
 ·rfl
theorem appFD_ (a b es len:Nat) (ss ss2:List DSh) (r:List Leaf) (ks:List LV) (id:Nat) (fr:Bool) (old:List (List Leaf)) (T:List (Nat×LV)) (H:HL) (nx nt:Nat):zyR a b es len ss r ks id (some (fr,.deep ss2 old)) ⟨T,H,nx,nt⟩=if a=es∧ks.all flat=true then some ⟨ss2=ss∧len=old.length∧(len+1) * b≤140737488355328,.os nx es 0 (len+1) (len+1) false,(nx,some (fr,.foc ss2 (old++[r]) len ks)) :: (id,none) :: H,nx+1⟩ else none:=rfl
theorem fy_nl (H:zkd):zrt H .nl=none:=rfl
theorem fy_lf (H:zkd) (t:Bool) (l:Leaf):zrt H (.lf t l)=none:=rfl
theorem fy_os (H:zkd) (id es lo len mc:Nat) (ex:Bool):zrt H (.os id es lo len mc ex)=zvM id lo len (H id):=rfl
theorem fx_none (id lo len:Nat):zvM id lo len none=none:=rfl
theorem fx_arr (id lo len:Nat) (fr t:Bool) (es:Nat) (rows:List (List Leaf)):zvM id lo len (some (fr,.arr t es rows))=none:=rfl
theorem fx_deep (id lo len:Nat) (fr:Bool) (ss:List DSh) (rows:List (List Leaf)):zvM id lo len (some (fr,.deep ss rows))=none:=rfl
theorem fx_foc (id:Nat) (fr:Bool) (ss:List DSh) (r:List Leaf) (ks:List LV):zvM id 0 1 (some (fr,.foc ss [r] 0 ks))=some (id,ss,r,ks):=rfl
theorem ds_sc:DSh.isSc .sc=true:=rfl
theorem ds_sl (ss:List DSh):DSh.isSc (.sl ss)=false:=rfl
theorem px_1 (T:List (Nat×LV)) (x:Operand):zo2 T [(0,x)]=zkD (ev T x):=rfl
theorem bd_none (T:List (Nat×LV)) (es:Nat) (l:List (Nat×Operand)):zl9 none T es l=none:=rfl
theorem bd_nil (ss:Option (List DSh)) (T:List (Nat×LV)) (es:Nat):zl9 ss T es []=none:=by
 unfold zl9
 cases ss with
 | none=>rfl
 | some ss=>simp
theorem bd_some (ss:List DSh) (T:List (Nat×LV)) (es:Nat) (p:Nat×Operand) (l:List (Nat×Operand)):zl9 (some ss) T es (p :: l)=if ss.all DSh.isSc=true then none else if ss.length=es then (match zk8 T ss es (p :: l) with | some r=>some (ss,r) | none=>none) else none:=by
 show (if ss.all DSh.isSc=true then none else if ss.length=es then (zk8 T ss es (p :: l)).map (λ r=>(ss,r)) else none)=_
 generalize zk8 T ss es (p :: l)=o
 cases o<;>rfl
def pdP (ss:List DSh) (es:Nat) (ks:Option (List LV)) (r:Option (List (List Leaf))):Option (List (List Leaf)):=match ks,r with
 | some ks,some rows=>if ks.all LV.isN=true then (if ks.length=es then (match zmJ [] ss ks with
  | some (ls,[],_)=>some (ls :: rows)
  | _=>none) else none) else none
 | _,_=>none
theorem in_nl:LV.isN .nl=true:=rfl
theorem in_sc (t:Bool) (v:Value):LV.isN (.lf t (.sc v))=true:=rfl
theorem in_sl (t:Bool) (r:List (List Leaf)):LV.isN (.lf t (.sl r))=false:=rfl
theorem in_os (id es lo len mc:Nat) (ex:Bool):LV.isN (.os id es lo len mc ex)=false:=rfl
theorem in_un:LV.isN .un=false:=rfl
theorem pd_nil (T:List (Nat×LV)) (ss:List DSh) (es:Nat):zk8 T ss es []=some []:=rfl
theorem pd_cons (T:List (Nat×LV)) (ss:List DSh) (es i:Nat) (x:Operand) (r:List (Nat×Operand)):zk8 T ss es ((i,x) :: r)=pdP ss es (zkD (ev T x)) (zk8 T ss es r):=rfl
theorem pdP_some (ss:List DSh) (es:Nat) (ks:List LV) (rows:List (List Leaf)):pdP ss es (some ks) (some rows)=if ks.all LV.isN=true then (if ks.length=es then (match zmJ [] ss ks with | some (ls,[],_)=>some (ls :: rows) | _=>none) else none) else none:=rfl
theorem pdP_none (ss:List DSh) (es:Nat) (ks:Option (List LV)):pdP ss es ks none=none:=by cases ks<;>rfl
theorem dz_none (ee:TE):zsH none ee=none:=rfl
theorem dz_some (ss:List DSh) (a b:Nat) (z:List Value) (sh:Sh):zsH (some ss) ⟨a,b,z,sh⟩=if ss.all DSh.isSc=true then none else if ss.length=a then dzP ss (zmJ [] ss (z.map zkC)) else none:=by
 unfold zsH dzP;rfl
theorem dzP_ (ss:List DSh) (zl:List Leaf):dzP ss (some (zl,[],true))=some (ss,zl):=rfl
theorem dsh9 (tab:Tab) (t:Nat):zkT tab 9 t=zos tab 8 (zjT tab t):=by simp only [zkT];exact zmO tab 8 _
theorem dsh8 (tab:Tab) (t:Nat):zkT tab 8 t=zos tab 7 (zjT tab t):=by simp only [zkT];exact zmO tab 7 _
theorem dsh7 (tab:Tab) (t:Nat):zkT tab 7 t=zos tab 6 (zjT tab t):=by simp only [zkT];exact zmO tab 6 _
theorem dsh6 (tab:Tab) (t:Nat):zkT tab 6 t=zos tab 5 (zjT tab t):=by simp only [zkT];exact zmO tab 5 _
theorem dsh5 (tab:Tab) (t:Nat):zkT tab 5 t=zos tab 4 (zjT tab t):=by simp only [zkT];exact zmO tab 4 _
theorem dsh4 (tab:Tab) (t:Nat):zkT tab 4 t=zos tab 3 (zjT tab t):=by simp only [zkT];exact zmO tab 3 _
theorem dsh3 (tab:Tab) (t:Nat):zkT tab 3 t=zos tab 2 (zjT tab t):=by simp only [zkT];exact zmO tab 2 _
theorem dsh2 (tab:Tab) (t:Nat):zkT tab 2 t=zos tab 1 (zjT tab t):=by simp only [zkT];exact zmO tab 1 _
theorem dsh1 (tab:Tab) (t:Nat):zkT tab 1 t=zos tab 0 (zjT tab t):=by simp only [zkT];exact zmO tab 0 _
theorem dA_int (tab:Tab) (n a b:Nat) (z:List Value) (k:IntKind):zos tab n (some ⟨a,b,z,.int k⟩)=some [.sc]:=rfl
theorem dA_bool (tab:Tab) (n a b:Nat) (z:List Value):zos tab n (some ⟨a,b,z,.bool⟩)=some [.sc]:=rfl
theorem dA_str (tab:Tab) (n a b:Nat) (z:List Value):zos tab n (some ⟨a,b,z,.str⟩)=some [.sc]:=rfl
theorem dA_sl (tab:Tab) (n a b el:Nat) (z:List Value):zos tab n (some ⟨a,b,z,.slice el⟩)=zyS (zkT tab n el):=rfl
theorem dA_st (tab:Tab) (n a b:Nat) (z:List Value) (fs:List (Nat×Nat)):zos tab n (some ⟨a,b,z,.struct fs⟩)=ztM tab n fs:=rfl
theorem dA_fl (tab:Tab) (n a b:Nat) (z:List Value):zos tab n (some ⟨a,b,z,.flat⟩)=none:=rfl
theorem dS_s (ss:List DSh):zyS (some ss)=some [.sl ss]:=rfl
theorem dS_n:zyS none=none:=rfl
theorem dT_nil (tab:Tab) (n:Nat):ztM tab n []=some []:=rfl
theorem dT_cons (tab:Tab) (n t o:Nat) (r:List (Nat×Nat)):ztM tab n ((t,o) :: r)=zAp (zkT tab n t) (ztM tab n r):=rfl
theorem dM_s (a b:List DSh):zAp (some a) (some b)=some (a++b):=rfl
theorem dM_n (b:Option (List DSh)):zAp none b=none:=rfl
theorem pk_ (T:List (Nat×LV)) (H:HL) (nx nt id:Nat):St.pack ⟨T,H,nx,nt⟩ id=zA7 id (hp H id) ⟨T,H,nx,nt⟩:=rfl
theorem pkA_ (id p:Nat) (fr:Bool) (ss:List DSh) (rows:List (List Leaf)) (ks:List LV) (T:List (Nat×LV)) (H:HL) (nx nt:Nat):zA7 id (some (fr,.foc ss rows p ks)) ⟨T,H,nx,nt⟩=zyT id fr ss rows p (zmJ H ss ks) ⟨T,H,nx,nt⟩:=rfl
theorem pkB_ (id p:Nat) (fr f:Bool) (ss:List DSh) (rows:List (List Leaf)) (ls:List Leaf) (kl:List Nat) (T:List (Nat×LV)) (H:HL) (nx nt:Nat):zyT id fr ss rows p (some (ls,kl,f)) ⟨T,H,nx,nt⟩=if (inN id kl || ztz kl)=false then ⟨T,(id,some (fr && f,.deep ss (rows.set p ls))) :: zoj kl H,nx,nt⟩ else ⟨T,H,nx,nt⟩:=rfl
theorem pkL_nil (H:HL):zmJ H [] []=some ([],[],true):=rfl
theorem pkL_cons (H:HL) (s:DSh) (ss:List DSh) (k:LV) (ks:List LV):zmJ H (s :: ss) (k :: ks)=zyU (zrn H s k) (zmJ H ss ks):=rfl
theorem pkM_s (l:Leaf) (n:Nat) (f g:Bool) (ls:List Leaf) (kl:List Nat):zyU (some (l,some n,f)) (some (ls,kl,g))=some (l :: ls,n :: kl,f && g):=rfl
theorem pkM_n (l:Leaf) (f g:Bool) (ls:List Leaf) (kl:List Nat):zyU (some (l,none,f)) (some (ls,kl,g))=some (l :: ls,kl,f && g):=rfl
theorem pkC_sc (H:HL) (t:Bool) (v:Value):zrn H .sc (.lf t (.sc v))=some (.sc v,none,true):=rfl
theorem pkC_nl (H:HL) (ss:List DSh):zrn H (.sl ss) .nl=some (.sl [],none,true):=rfl
theorem pkC_os (H:HL) (ss:List DSh) (k es lo len mc:Nat) (ex:Bool):zrn H (.sl ss) (.os k es lo len mc ex)=zyV ss k es lo (hp H k):=rfl
theorem pkO_arr (ss:List DSh) (k es lo:Nat) (fr t:Bool) (es':Nat) (rows:List (List Leaf)):zyV ss k es lo (some (fr,.arr t es' rows))=if es=ss.length∧es'=es∧lo=0∧0 < es∧ss.all DSh.isSc=true then some (.sl rows,some k,fr) else none:=rfl
theorem pkO_deep (ss:List DSh) (k es lo:Nat) (fr:Bool) (s2:List DSh) (rows:List (List Leaf)):zyV ss k es lo (some (fr,.deep s2 rows))=if es=ss.length∧lo=0∧0 < es then some (.sl rows,some k,fr) else none:=rfl
theorem pkP_ (H:HL) (id:Nat):zok H id=zyW H (hp H id):=rfl
theorem pkPO_ (H:HL) (fr:Bool) (ss:List DSh) (rows:List (List Leaf)) (p:Nat) (ks:List LV):zyW H (some (fr,.foc ss rows p ks))=znp H ss ks:=rfl
theorem pkQs_nil (H:HL):znp H [] []=True:=rfl
theorem pkQs_cons (H:HL) (s:DSh) (ss:List DSh) (k:LV) (ks:List LV):znp H (s :: ss) (k :: ks)=(zpu H s k∧znp H ss ks):=rfl
theorem pkQ_sc (H:HL) (k:LV):zpu H .sc k=True:=by cases k<;>rfl
theorem pkQ_nl (H:HL) (ss:List DSh):zpu H (.sl ss) .nl=True:=rfl
theorem pkQ_os (H:HL) (ss:List DSh) (k es lo len mc:Nat) (ex:Bool):zpu H (.sl ss) (.os k es lo len mc ex)=zvW ss len (hp H k):=rfl
theorem pkQO_arr (ss:List DSh) (len:Nat) (fr t:Bool) (es':Nat) (rows:List (List Leaf)):zvW ss len (some (fr,.arr t es' rows))=(len=rows.length∧zn7 rows):=rfl
theorem pkQO_deep (ss:List DSh) (len:Nat) (fr:Bool) (s2:List DSh) (rows:List (List Leaf)):zvW ss len (some (fr,.deep s2 rows))=(s2=ss∧len=rows.length):=rfl
theorem inN_nil (x:Nat):inN x []=false:=rfl
theorem inN_cons (x y:Nat) (r:List Nat):inN x (y :: r)=((x == y) || inN x r):=rfl
theorem dupN_nil:ztz []=false:=rfl
theorem dupN_cons (x:Nat) (r:List Nat):ztz (x :: r)=(inN x r || ztz r):=rfl
theorem kill_nil (H:HL):zoj [] H=H:=rfl
theorem kill_cons (k:Nat) (r:List Nat) (H:HL):zoj (k :: r) H=(k,none) :: zoj r H:=rfl
theorem fo_ (T:List (Nat×LV)) (H:HL) (nx nt id p:Nat):St.focus ⟨T,H,nx,nt⟩ id p=zB3 id p (hp H id) ⟨T,H,nx,nt⟩:=rfl
theorem foA_ (id p:Nat) (fr:Bool) (ss:List DSh) (rows:List (List Leaf)) (T:List (Nat×LV)) (H:HL) (nx nt:Nat):zB3 id p (some (fr,.deep ss rows)) ⟨T,H,nx,nt⟩=⟨T,(id,some (fr,.foc ss rows p (zoW ss (rows.getD p []) nx))) :: zps fr ss (rows.getD p []) nx H,nx+ss.length,nt⟩:=rfl
theorem foP_ (H:HL) (id p:Nat):zrm H id p=zA8 p (hp H id):=rfl
theorem foPO_ (p:Nat) (fr:Bool) (ss:List DSh) (rows:List (List Leaf)):zA8 p (some (fr,.deep ss rows))=(p < rows.length):=rfl
theorem foL_nil (r:List Leaf) (nx:Nat):zoW [] r nx=[]:=by cases r<;>rfl
theorem foL_cons (s:DSh) (ss:List DSh) (l:Leaf) (r:List Leaf) (nx:Nat):zoW (s :: ss) (l :: r) nx=zyt s l nx :: zoW ss r (nx+1):=rfl
theorem foH_nil (fr:Bool) (r:List Leaf) (nx:Nat) (H:HL):zps fr [] r nx H=H:=by cases r<;>rfl
theorem foH_cons (fr:Bool) (s:DSh) (ss:List DSh) (l:Leaf) (r:List Leaf) (nx:Nat) (H:HL):zps fr (s :: ss) (l :: r) nx H=(nx,zut fr s l) :: zps fr ss r (nx+1) H:=rfl
theorem foC_sc (v:Value) (nx:Nat):zyt .sc (.sc v) nx=.lf false (.sc v):=rfl
theorem foC_sl (ss:List DSh) (rows:List (List Leaf)) (nx:Nat):zyt (.sl ss) (.sl rows) nx=.os nx ss.length 0 rows.length rows.length false:=rfl
theorem foO_sc (fr:Bool) (l:Leaf):zut fr .sc l=none:=by cases l<;>rfl
theorem foO_sl (fr:Bool) (ss:List DSh) (rows:List (List Leaf)):zut fr (.sl ss) (.sl rows)=some (fr,zna ss rows):=rfl
theorem inOb (ss:List DSh) (rows:List (List Leaf)):zna ss rows=if ss.all DSh.isSc=true then .arr false ss.length rows else .deep ss rows:=rfl
theorem appB_ (a b:Nat) (z:List Value) (sh:Sh) (x y:LV) (tx:Bool) (rows:List (List Leaf)) (s:St):zBs (some ⟨a,b,z,sh⟩) x y (some (tx,rows)) s=if 0 < b∧z.length=a then zAn ⟨a,b,z,sh⟩ x y tx rows s else none:=rfl
theorem appC_nl (a b:Nat) (z:List Value) (sh:Sh) (y:LV) (tx:Bool) (rows:List (List Leaf)) (T:List (Nat×LV)) (H:HL) (nx nt:Nat):zAn ⟨a,b,z,sh⟩ .nl y tx rows ⟨T,H,nx,nt⟩=some ⟨(∀ r∈rows,r.length=a)∧rows.length * b≤140737488355328,.os nx a 0 rows.length rows.length false,(nx,some (true,.arr tx a rows)) :: H,nx+1⟩:=rfl
theorem appC_os (a b:Nat) (z:List Value) (sh:Sh) (id es lo len mc:Nat) (y:LV) (ex tx:Bool) (rows:List (List Leaf)) (T:List (Nat×LV)) (H:HL) (nx nt:Nat):zAn ⟨a,b,z,sh⟩ (.os id es lo len mc ex) y tx rows ⟨T,H,nx,nt⟩=zBr ⟨a,b,z,sh⟩ (zrs (.os id es lo len mc ex) y (len+rows.length)) es lo len tx rows id (hp H id) ⟨T,H,nx,nt⟩:=rfl
theorem appD_ (a b rm:Nat) (z:List Value) (sh:Sh) (es lo len:Nat) (tx:Bool) (rows:List (List Leaf)) (id:Nat) (fr t1:Bool) (es':Nat) (old:List (List Leaf)) (T:List (Nat×LV)) (H:HL) (nx nt:Nat):zBr ⟨a,b,z,sh⟩ rm es lo len tx rows id (some (fr,.arr t1 es' old)) ⟨T,H,nx,nt⟩=if a=es∧es'=es then
      some ⟨lo+len≤old.length∧(∀ r∈rows,r.length=es)∧(len+rows.length) * b≤140737488355328,.os nx es 0 (len+rows.length) rm false,
        (nx,some (fr,.arr (t1 || tx) es ((old.drop lo).take len++rows))) :: (id,none) :: H,nx+1⟩ else none:=rfl
theorem clr_ (tab:Tab) (s:St) (x:Operand) (t:Nat):zon tab s [x] [t]=zB2 tab (zjT tab t) (ev s.T x) s:=rfl
theorem clrA_ (tab:Tab) (a b el:Nat) (z:List Value) (x:LV) (s:St):zB2 tab (some ⟨a,b,z,.slice el⟩) x s=zBw (zjT tab el) x s:=rfl
theorem clrB_ (a b:Nat) (z:List Value) (sh:Sh) (id es lo len mc:Nat) (ex:Bool) (s:St):zBw (some ⟨a,b,z,sh⟩) (.os id es lo len mc ex) s=zBv ⟨a,b,z,sh⟩ es lo (hp s.H id) (zk2 (z.map zkC)) s:=rfl
theorem clrC_ (a b:Nat) (z:List Value) (sh:Sh) (es lo:Nat) (fr t:Bool) (es':Nat) (old:List (List Leaf)) (zl:List Leaf) (s:St):zBv ⟨a,b,z,sh⟩ es lo (some (fr,.arr t es' old)) (some (false,zl)) s=if z.length=a∧a=es∧es'=es then some ⟨old.length≤lo,.un,s.H,s.nx⟩ else none:=rfl
theorem rm_lf (id es lo len mc:Nat) (ex t:Bool) (l:Leaf) (n:Nat):zrs (.os id es lo len mc ex) (.lf t l) n=n:=rfl
theorem rm_nl (id es lo len mc:Nat) (ex:Bool) (n:Nat):zrs (.os id es lo len mc ex) .nl n=n:=rfl
theorem rm_os (id es lo len mc id' es' lo' len' mc':Nat) (ex ex':Bool) (n:Nat):zrs (.os id es lo len mc ex) (.os id' es' lo' len' mc' ex') n=if id=id' then max n mc else n:=rfl
theorem src_lf (H:zkd) (t:Bool) (rows:List (List Leaf)):zla H (.lf t (.sl rows))=some (t,rows):=rfl
theorem src_nl (H:zkd):zla H .nl=some (false,[]):=rfl
theorem src_os (H:zkd) (id es lo len mc:Nat) (ex:Bool):zla H (.os id es lo len mc ex)=zB1 es lo len (H id):=rfl
theorem srcA_ (es lo len:Nat) (fr t:Bool) (es':Nat) (rows:List (List Leaf)):zB1 es lo len (some (fr,.arr t es' rows))=if es'=es∧lo+len≤rows.length then some (t,(rows.drop lo).take len) else none:=rfl
theorem sc_tu (l:List LV):sc? (.tu l)=none:=rfl
theorem wkT_nil (ρ:Ren) (T:List (Nat×LV)):wkT ρ T []=True:=rfl
theorem wkT_cons (ρ:Ren) (T:List (Nat×LV)) (t:Nat) (lv:LV) (r:List (Nat×LV)):wkT ρ T ((t,lv) :: r)=(wk ρ (tv T t) lv∧wkT ρ T r):=rfl
theorem wkHs_nil (ρ:Ren) (H:zkd):zqO ρ H []=True:=rfl
theorem wkHs_some (ρ:Ren) (H:zkd) (i:Nat) (o:Bool×Ob) (r:HL):zqO ρ H ((i,some o) :: r)=(zxr ρ H (ρ[i]?) o∧zqO ρ H r):=by
 have:wkH ρ H i o=zxr ρ H (ρ[i]?) o:=by
  unfold wkH
  rcases ρ[i]? with _ | _ | id
  ·rfl
  ·obtain ⟨fr,o⟩:=o
   cases o with
   | box ls=>exact propext ⟨λ h=>(by rcases h with ⟨t',es',h⟩ | ⟨ss,h⟩<;>cases h),λ h=>h.elim⟩
   | arr t es rows=>exact propext ⟨λ h=>(by rcases h with ⟨t',es',h⟩ | ⟨ss,h⟩<;>cases h;rfl),λ h=>.inl ⟨t,es,(by rw [show rows=[] from h])⟩⟩
   | deep ss rows=>exact propext ⟨λ h=>(by rcases h with ⟨t',es',h⟩ | ⟨ss,h⟩<;>cases h;rfl),λ h=>.inr ⟨ss,(by rw [show rows=[] from h])⟩⟩
   | foc ss rows p ks=>exact propext ⟨λ h=>(by rcases h with ⟨t',es',h⟩ | ⟨ss,h⟩<;>cases h),λ h=>h.elim⟩
  ·simp only [zxr]
   rcases H id with _ | ⟨fr,o'⟩
   ·exact propext ⟨λ ⟨fr,o,h,_⟩=>(by cases h),λ h=>h.elim⟩
   ·refine propext ⟨λ ⟨fr2,o2,h,h1,h2⟩=>?_,λ h=>⟨_,_,rfl,h⟩⟩
    cases h
    exact ⟨h1,h2⟩
 rw [← this]
 rfl
theorem wkHs_none (ρ:Ren) (H:zkd) (i:Nat) (r:HL):zqO ρ H ((i,none) :: r)=zqO ρ H r:=rfl
theorem wkHa_some (ρ:Ren) (H:zkd) (id:Nat) (o:Bool×Ob):zxr ρ H (some (some id)) o=zBq ρ (H id) o:=rfl
theorem wkHa_none (ρ:Ren) (H:zkd) (fr t:Bool) (es:Nat) (rows:List (List Leaf)):zxr ρ H (some none) (fr,.arr t es rows)=(rows=[]):=rfl
theorem wkHa_nd (ρ:Ren) (H:zkd) (fr:Bool) (ss:List DSh) (rows:List (List Leaf)):zxr ρ H (some none) (fr,.deep ss rows)=(rows=[]):=rfl
theorem wkHb_some (ρ:Ren) (fr fr2:Bool) (o o2:Ob):zBq ρ (some (fr,o)) (fr2,o2)=((fr2=fr∨fr2=false)∧zso ρ o o2):=rfl
theorem wkOb_box (ρ:Ren) (l l':List LV):zso ρ (.box l) (.box l')=wks ρ l l':=rfl
theorem wkOb_arr (ρ:Ren) (t t':Bool) (es es':Nat) (r r':List (List Leaf)):zso ρ (.arr t es r) (.arr t' es' r')=(tOk t t' r∧es'=es∧r'=r):=rfl
theorem wkOb_deep (ρ:Ren) (ss ss':List DSh) (r r':List (List Leaf)):zso ρ (.deep ss r) (.deep ss' r')=(ss'=ss∧r'=r):=rfl
theorem mcOk_eq (n len:Nat) (ex:Bool):zxs n n len ex false=True:=eq_true (.inr ⟨Nat.le_max_right _ _,rfl⟩)
theorem mcOk_len (mc n:Nat) (ex:Bool):zxs mc n n ex false=True:=eq_true (.inr ⟨Nat.le_max_left _ _,rfl⟩)
theorem mcOk_same (n len:Nat) (ex:Bool):zxs n n len ex ex=True:=eq_true (.inl ⟨rfl,rfl⟩)
theorem mcOk_f (mc mc' len:Nat) (ex:Bool):zxs mc mc' len ex false=(mc'≤max len mc):=propext ⟨λ h=>h.elim (λ h=>by omega) (·.1),λ h=>.inr ⟨h,rfl⟩⟩
theorem tOk_f (t':Bool) (r:List (List Leaf)):tOk false t' r=True:=eq_true (.inl λ h=>by cases h)
theorem tOk_t (t:Bool) (r:List (List Leaf)):tOk t true r=True:=eq_true (.inl λ _=>rfl)
theorem tOk_b (t:Bool) (r:List (List Leaf)):tOk t t r=True:=eq_true (.inl id)
theorem tOk_tf (r:List (List Leaf)):tOk true false r=zn7 r:=propext ⟨λ h=>h.elim (λ h=>by cases h rfl) id,.inr⟩
theorem flat_nil:zn7 []=True:=eq_true λ r hr=>by simp at hr
theorem wks_nil (ρ:Ren):wks ρ [] []=True:=rfl
theorem wks_cons (ρ:Ren) (a b:LV) (r q:List LV):wks ρ (a :: r) (b :: q)=(wk1 ρ a b∧wks ρ r q):=rfl
theorem w1_un (ρ:Ren) (a:LV):wk1 ρ a .un=True:=rfl
theorem w1_lf (ρ:Ren) (t t':Bool) (l l':Leaf):wk1 ρ (.lf t l) (.lf t' l')=((t=true→t'=true)∧l=l'):=rfl
theorem w1_nf (ρ:Ren) (t':Bool) (l':Leaf):wk1 ρ .nl (.lf t' l')=(l'=.sl []):=rfl
theorem w1_nl (ρ:Ren):wk1 ρ .nl .nl=True:=eq_true rfl
theorem w1_os (ρ:Ren) (id id' es es' lo lo' len len' mc mc':Nat) (ex ex':Bool):wk1 ρ (.os id es lo len mc ex) (.os id' es' lo' len' mc' ex')=(ρ[id']?=some (some id)∧es'=es∧lo'=lo∧len'=len∧zxs mc mc' len ex ex'):=rfl
theorem w1_no (ρ:Ren) (id' es' lo' len' mc':Nat) (ex':Bool):wk1 ρ .nl (.os id' es' lo' len' mc' ex')=(id' < ρ.length∧lo'=0∧len'=0∧mc'=0):=rfl
theorem w1_pb (ρ:Ren) (id off id' off':Nat):wk1 ρ (.pb id off) (.pb id' off')=(ρ[id']?=some (some id)∧off'=off):=rfl
theorem w1_pe (ρ:Ren) (id es i off id' es' i' off':Nat):wk1 ρ (.pe id es i off) (.pe id' es' i' off')=(ρ[id']?=some (some id)∧es'=es∧i'=i∧off'=off):=rfl
theorem w1_ra (ρ:Ren) (t t':Bool) (l l':List Leaf):wk1 ρ (.ra t l) (.ra t' l')=((t=true→t'=true)∧l=l'):=rfl
theorem wk_un (ρ:Ren) (a:LV):wk ρ a .un=True:=rfl
theorem wk_lf (ρ:Ren) (t t':Bool) (l l':Leaf):wk ρ (.lf t l) (.lf t' l')=((t=true→t'=true)∧l=l'):=rfl
theorem wk_nf (ρ:Ren) (t':Bool) (l':Leaf):wk ρ .nl (.lf t' l')=(l'=.sl []):=rfl
theorem wk_nl (ρ:Ren):wk ρ .nl .nl=True:=eq_true rfl
theorem wk_os (ρ:Ren) (id id' es es' lo lo' len len' mc mc':Nat) (ex ex':Bool):wk ρ (.os id es lo len mc ex) (.os id' es' lo' len' mc' ex')=(ρ[id']?=some (some id)∧es'=es∧lo'=lo∧len'=len∧zxs mc mc' len ex ex'):=rfl
theorem wk_no (ρ:Ren) (id' es' lo' len' mc':Nat) (ex':Bool):wk ρ .nl (.os id' es' lo' len' mc' ex')=(id' < ρ.length∧lo'=0∧len'=0∧mc'=0):=rfl
theorem wk_pb (ρ:Ren) (id off id' off':Nat):wk ρ (.pb id off) (.pb id' off')=(ρ[id']?=some (some id)∧off'=off):=rfl
theorem wk_pe (ρ:Ren) (id es i off id' es' i' off':Nat):wk ρ (.pe id es i off) (.pe id' es' i' off')=(ρ[id']?=some (some id)∧es'=es∧i'=i∧off'=off):=rfl
theorem wk_ra (ρ:Ren) (t t':Bool) (l l':List Leaf):wk ρ (.ra t l) (.ra t' l')=((t=true→t'=true)∧l=l'):=rfl
theorem wk_ag (ρ:Ren) (l l':List LV):wk ρ (.ag l) (.ag l')=wks ρ l l':=rfl
theorem wk_fn (ρ:Ren) (f f':FuncId) (l l':List LV):wk ρ (.fn f l) (.fn f' l')=(f=f'∧wks ρ l l'):=rfl
end S
theorem zBx (b:Bool):(b=true→true=true)=True:=eq_true λ _=>rfl
theorem zBy (b:Bool):(false=true→b=true)=True:=eq_true λ h=>by cases h
theorem zBz (b:Bool):(b=true→b=true)=True:=eq_true id
attribute [irreducible] zB0
end Go.TL

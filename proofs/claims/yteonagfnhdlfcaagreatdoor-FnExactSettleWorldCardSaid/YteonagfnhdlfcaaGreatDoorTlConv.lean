import Derived.Test.YteonagfnhdlfcaaGreatDoorTlRows
set_option linter.unusedSimpArgs false
set_option linter.unusedVariables false
noncomputable section
namespace Go.TL
open Go
def cvA (x:Option LV) (y:Option (List LV)):Option (List LV):=match x,y with
 | some x,some y=>some (x :: y)
 | _,_=>none
def cvO (p:Option Nat) (o:Option (Bool×Ob)) (es lo len mc:Nat) (ex:Bool):Option LV:=match p with
 | some k=>some (.os k es lo len mc ex)
 | none=>match o with
  | some (_,.arr _ es' rows)=>if es'=es∧lo+len≤rows.length then some (.lf true (.sl ((rows.drop lo).take len))) else none
  | some (_,.deep ss rows)=>if ss.length=es∧lo+len≤rows.length then some (.lf true (.sl ((rows.drop lo).take len))) else none
  | _=>none
namespace S
variable (ids:List Nat) (H:zlM)
@[go_sem] theorem zD6:zmK ids H []=some []:=rfl
@[go_sem] theorem zCV (lv:LV) (r:List LV):zmK ids H (lv :: r)=cvA (conv ids H lv) (zmK ids H r):=by
 simp only [zmK]
 unfold cvA
 cases conv ids H lv<;>cases zmK ids H r<;>rfl
@[go_sem] theorem zGM (x:LV) (y:List LV):cvA (some x) (some y)=some (x :: y):=rfl
@[go_sem] theorem zD7:zm7 ids H []=some []:=rfl
@[go_sem] theorem zCW (lv:LV) (r:List LV):zm7 ids H (lv :: r)=cvA (znj ids H lv) (zm7 ids H r):=by
 simp only [zm7]
 unfold cvA
 cases znj ids H lv<;>cases zm7 ids H r<;>rfl
@[go_sem] theorem zx3 (t:Bool) (v:Value):conv ids H (.lf t (.sc v))=some (.lf false (.sc v)):=rfl
@[go_sem] theorem zFX (t:Bool) (r:List (List Leaf)):conv ids H (.lf t (.sl r))=some (.lf true (.sl r)):=rfl
@[go_sem] theorem zFY:conv ids H .nl=some .nl:=rfl
@[go_sem] theorem zFZ:conv ids H .un=some .un:=rfl
@[go_sem] theorem zF0 (l:List LV):conv ids H (.ag l)=(zm7 ids H l).map .ag:=rfl
@[go_sem] theorem zF1 (id es lo len mc:Nat) (ex:Bool):conv ids H (.os id es lo len mc ex)=cvO (pos ids id) (H id) es lo len mc ex:=by
 simp only [conv,znj]
 unfold cvO
 cases pos ids id with
 | some k=>rfl
 | none =>
  rcases H id with _ | ⟨fr,o⟩
  ·rfl
  ·cases o<;>rfl
@[go_sem] theorem zF2 (t:Bool) (v:Value):znj ids H (.lf t (.sc v))=some (.lf false (.sc v)):=rfl
@[go_sem] theorem zF3 (t:Bool) (r:List (List Leaf)):znj ids H (.lf t (.sl r))=some (.lf true (.sl r)):=rfl
@[go_sem] theorem zF4:znj ids H .nl=some .nl:=rfl
@[go_sem] theorem zF5:znj ids H .un=some .un:=rfl
@[go_sem] theorem zF6 (id es lo len mc:Nat) (ex:Bool):znj ids H (.os id es lo len mc ex)=cvO (pos ids id) (H id) es lo len mc ex:=by
 simp only [znj]
 unfold cvO
 cases pos ids id with
 | some k=>rfl
 | none =>
  rcases H id with _ | ⟨fr,o⟩
  ·rfl
  ·cases o<;>rfl
@[go_sem] theorem zF7 (k:Nat) (o:Option (Bool×Ob)) (es lo len mc:Nat) (ex:Bool):cvO (some k) o es lo len mc ex=some (.os k es lo len mc ex):=rfl
@[go_sem] theorem zF8 (fr t:Bool) (es':Nat) (rows:List (List Leaf)) (es lo len mc:Nat) (ex:Bool):cvO none (some (fr,.arr t es' rows)) es lo len mc ex=if es'=es∧lo+len≤rows.length then some (.lf true (.sl ((rows.drop lo).take len))) else none:=rfl
@[go_sem] theorem zF9 (fr:Bool) (ss:List DSh) (rows:List (List Leaf)) (es lo len mc:Nat) (ex:Bool):cvO none (some (fr,.deep ss rows)) es lo len mc ex=if ss.length=es∧lo+len≤rows.length then some (.lf true (.sl ((rows.drop lo).take len))) else none:=rfl
@[go_sem] theorem zD8 (id:Nat):pos [] id=none:=rfl
@[go_sem] theorem zCX (i:Nat) (r:List Nat) (id:Nat):pos (i :: r) id=if id=i then some 0 else (pos r id).map (·+1):=rfl
end S
end Go.TL

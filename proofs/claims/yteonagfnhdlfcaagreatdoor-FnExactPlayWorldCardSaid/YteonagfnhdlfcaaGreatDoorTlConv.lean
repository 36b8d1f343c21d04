import Derived.Test.YteonagfnhdlfcaaGreatDoorTlRows
set_option linter.unusedSimpArgs false
set_option linter.unusedVariables false
noncomputable section
namespace Go.TL
open Go
def cvA (x:Option LV) (y:Option (List LV)):Option (List LV):=match x,y with
 | some x,some y=>some (x :: y)
 | _,_=>none
def cvO (p:Option Nat) (o:Option (Bool×Ob)) (es lo len mc:Nat) (ex:Bool):Option LV:=match p with
 | some k=>some (.os k es lo len mc ex)
 | none=>match o with
  | some (_,.arr _ es' rows)=>if es'=es∧lo+len≤rows.length then some (.lf true (.sl ((rows.drop lo).take len))) else none
  | some (_,.deep ss rows)=>if ss.length=es∧lo+len≤rows.length then some (.lf true (.sl ((rows.drop lo).take len))) else none
  | _=>none
namespace S
variable (ids:List Nat) (H:zkd)
@[go_sem] theorem zDd:zlg ids H []=some []:=rfl
@[go_sem] theorem zB5 (lv:LV) (r:List LV):zlg ids H (lv :: r)=cvA (conv ids H lv) (zlg ids H r):=by
 simp only [zlg]
 unfold cvA
 cases conv ids H lv<;>cases zlg ids H r<;>rfl
@[go_sem] theorem zFU (x:LV) (y:List LV):cvA (some x) (some y)=some (x :: y):=rfl
@[go_sem] theorem zDe:zlx ids H []=some []:=rfl
@[go_sem] theorem zB6 (lv:LV) (r:List LV):zlx ids H (lv :: r)=cvA (zlL ids H lv) (zlx ids H r):=by
 simp only [zlx]
 unfold cvA
 cases zlL ids H lv<;>cases zlx ids H r<;>rfl
@[go_sem] theorem zwP (t:Bool) (v:Value):conv ids H (.lf t (.sc v))=some (.lf false (.sc v)):=rfl
@[go_sem] theorem zE5 (t:Bool) (r:List (List Leaf)):conv ids H (.lf t (.sl r))=some (.lf true (.sl r)):=rfl
@[go_sem] theorem zE6:conv ids H .nl=some .nl:=rfl
@[go_sem] theorem zE7:conv ids H .un=some .un:=rfl
@[go_sem] theorem zE8 (l:List LV):conv ids H (.ag l)=(zlx ids H l).map .ag:=rfl
@[go_sem] theorem zE9 (id es lo len mc:Nat) (ex:Bool):conv ids H (.os id es lo len mc ex)=cvO (pos ids id) (H id) es lo len mc ex:=by
 simp only [conv,zlL]
 unfold cvO
 cases pos ids id with
 | some k=>rfl
 | none =>
  rcases H id with _ | ⟨fr,o⟩
  ·rfl
  ·cases o<;>rfl
@[go_sem] theorem zFa (t:Bool) (v:Value):zlL ids H (.lf t (.sc v))=some (.lf false (.sc v)):=rfl
@[go_sem] theorem zFb (t:Bool) (r:List (List Leaf)):zlL ids H (.lf t (.sl r))=some (.lf true (.sl r)):=rfl
@[go_sem] theorem zFc:zlL ids H .nl=some .nl:=rfl
@[go_sem] theorem zFd:zlL ids H .un=some .un:=rfl
@[go_sem] theorem zFe (id es lo len mc:Nat) (ex:Bool):zlL ids H (.os id es lo len mc ex)=cvO (pos ids id) (H id) es lo len mc ex:=by
 simp only [zlL]
 unfold cvO
 cases pos ids id with
 | some k=>rfl
 | none =>
  rcases H id with _ | ⟨fr,o⟩
  ·rfl
  ·cases o<;>rfl
@[go_sem] theorem zFf (k:Nat) (o:Option (Bool×Ob)) (es lo len mc:Nat) (ex:Bool):cvO (some k) o es lo len mc ex=some (.os k es lo len mc ex):=rfl
@[go_sem] theorem zFg (fr t:Bool) (es':Nat) (rows:List (List Leaf)) (es lo len mc:Nat) (ex:Bool):cvO none (some (fr,.arr t es' rows)) es lo len mc ex=if es'=es∧lo+len≤rows.length then some (.lf true (.sl ((rows.drop lo).take len))) else none:=rfl
@[go_sem] theorem zFh (fr:Bool) (ss:List DSh) (rows:List (List Leaf)) (es lo len mc:Nat) (ex:Bool):cvO none (some (fr,.deep ss rows)) es lo len mc ex=if ss.length=es∧lo+len≤rows.length then some (.lf true (.sl ((rows.drop lo).take len))) else none:=rfl
@[go_sem] theorem zDf (id:Nat):pos [] id=none:=rfl
@[go_sem] theorem zB7 (i:Nat) (r:List Nat) (id:Nat):pos (i :: r) id=if id=i then some 0 else (pos r id).map (·+1):=rfl
end S
end Go.TL

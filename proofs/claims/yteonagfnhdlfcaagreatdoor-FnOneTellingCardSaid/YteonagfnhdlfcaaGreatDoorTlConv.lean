import Derived.Test.YteonagfnhdlfcaaGreatDoorTlRows
set_option linter.unusedSimpArgs false
set_option linter.unusedVariables false
noncomputable section
namespace Go.TL
open Go
def cvA (x:Option LV) (y:Option (List LV)):Option (List LV):=match x,y with
 | some x,some y=>some (x :: y)
 | _,_=>none
def cvO (p:Option Nat) (o:Option (Bool×Ob)) (es lo len mc:Nat) (ex:Bool):Option LV:=match p with
 | some k=>some (.os k es lo len mc ex)
 | none=>match o with
  | some (_,.arr _ es' rows)=>if es'=es∧lo+len≤rows.length then some (.lf true (.sl ((rows.drop lo).take len))) else none
  | some (_,.deep ss rows)=>if ss.length=es∧lo+len≤rows.length then some (.lf true (.sl ((rows.drop lo).take len))) else none
  | _=>none
namespace S
variable (ids:List Nat) (H:zkO)
@[go_sem] theorem zDm:zlW ids H []=some []:=rfl
@[go_sem] theorem zCg (lv:LV) (r:List LV):zlW ids H (lv :: r)=cvA (conv ids H lv) (zlW ids H r):=by
 simp only [zlW]
 unfold cvA
 cases conv ids H lv<;>cases zlW ids H r<;>rfl
@[go_sem] theorem zF7 (x:LV) (y:List LV):cvA (some x) (some y)=some (x :: y):=rfl
@[go_sem] theorem zDn:zl9 ids H []=some []:=rfl
@[go_sem] theorem zCh (lv:LV) (r:List LV):zl9 ids H (lv :: r)=cvA (zmj ids H lv) (zl9 ids H r):=by
 simp only [zl9]
 unfold cvA
 cases zmj ids H lv<;>cases zl9 ids H r<;>rfl
@[go_sem] theorem zwQ (t:Bool) (v:Value):conv ids H (.lf t (.sc v))=some (.lf false (.sc v)):=rfl
@[go_sem] theorem zFi (t:Bool) (r:List (List Leaf)):conv ids H (.lf t (.sl r))=some (.lf true (.sl r)):=rfl
@[go_sem] theorem zFj:conv ids H .nl=some .nl:=rfl
@[go_sem] theorem zFk:conv ids H .un=some .un:=rfl
@[go_sem] theorem zFl (l:List LV):conv ids H (.ag l)=(zl9 ids H l).map .ag:=rfl
@[go_sem] theorem zFm (id es lo len mc:Nat) (ex:Bool):conv ids H (.os id es lo len mc ex)=cvO (pos ids id) (H id) es lo len mc ex:=by
 simp only [conv,zmj]
 unfold cvO
 cases pos ids id with
 | some k=>rfl
 | none =>
  rcases H id with _ | ⟨fr,o⟩
  ·rfl
  ·cases o<;>rfl
@[go_sem] theorem zFn (t:Bool) (v:Value):zmj ids H (.lf t (.sc v))=some (.lf false (.sc v)):=rfl
@[go_sem] theorem zFo (t:Bool) (r:List (List Leaf)):zmj ids H (.lf t (.sl r))=some (.lf true (.sl r)):=rfl
@[go_sem] theorem zFp:zmj ids H .nl=some .nl:=rfl
@[go_sem] theorem zFq:zmj ids H .un=some .un:=rfl
@[go_sem] theorem zFr (id es lo len mc:Nat) (ex:Bool):zmj ids H (.os id es lo len mc ex)=cvO (pos ids id) (H id) es lo len mc ex:=by
 simp only [zmj]
 unfold cvO
 cases pos ids id with
 | some k=>rfl
 | none =>
  rcases H id with _ | ⟨fr,o⟩
  ·rfl
  ·cases o<;>rfl
@[go_sem] theorem zFs (k:Nat) (o:Option (Bool×Ob)) (es lo len mc:Nat) (ex:Bool):cvO (some k) o es lo len mc ex=some (.os k es lo len mc ex):=rfl
@[go_sem] theorem zFt (fr t:Bool) (es':Nat) (rows:List (List Leaf)) (es lo len mc:Nat) (ex:Bool):cvO none (some (fr,.arr t es' rows)) es lo len mc ex=if es'=es∧lo+len≤rows.length then some (.lf true (.sl ((rows.drop lo).take len))) else none:=rfl
@[go_sem] theorem zFu (fr:Bool) (ss:List DSh) (rows:List (List Leaf)) (es lo len mc:Nat) (ex:Bool):cvO none (some (fr,.deep ss rows)) es lo len mc ex=if ss.length=es∧lo+len≤rows.length then some (.lf true (.sl ((rows.drop lo).take len))) else none:=rfl
@[go_sem] theorem zDo (id:Nat):pos [] id=none:=rfl
@[go_sem] theorem zCi (i:Nat) (r:List Nat) (id:Nat):pos (i :: r) id=if id=i then some 0 else (pos r id).map (·+1):=rfl
end S
end Go.TL

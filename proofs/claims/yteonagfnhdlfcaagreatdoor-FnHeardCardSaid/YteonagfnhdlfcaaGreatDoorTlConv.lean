import Derived.Test.YteonagfnhdlfcaaGreatDoorTlRows
set_option linter.unusedSimpArgs false
set_option linter.unusedVariables false
namespace Go.TL
open Go
def cvA (x : Option LV) (y : Option (List LV)) : Option (List LV) := match x,y with
 | some x,some y => some (x :: y)
 | _,_ => none
def cvO (p : Option Nat) (o : Option (Bool × Ob)) (es lo len mc : Nat) (ex : Bool) : Option LV := match p with
 | some k => some (.os k es lo len mc ex)
 | none => match o with
  | some (_,.arr _ es' rows) => if es' = es ∧ lo + len ≤ rows.length then some (.lf true (.sl ((rows.drop lo).take len))) else none
  | some (_,.deep ss rows) => if ss.length = es ∧ lo + len ≤ rows.length then some (.lf true (.sl ((rows.drop lo).take len))) else none
  | _ => none
namespace S
variable (ids : List Nat) (H : Heap)
@[go_sem] theorem cva_nil : convAll ids H [] = some [] := rfl
@[go_sem] theorem cva_cons (lv : LV) (r : List LV) : convAll ids H (lv :: r) = cvA (conv ids H lv) (convAll ids H r) := by
 simp only [convAll]
 unfold cvA
 cases conv ids H lv <;> cases convAll ids H r <;> rfl
@[go_sem] theorem cvA_ (x : LV) (y : List LV) : cvA (some x) (some y) = some (x :: y) := rfl
@[go_sem] theorem cvs_nil : convs ids H [] = some [] := rfl
@[go_sem] theorem cvs_cons (lv : LV) (r : List LV) : convs ids H (lv :: r) = cvA (conv1 ids H lv) (convs ids H r) := by
 simp only [convs]
 unfold cvA
 cases conv1 ids H lv <;> cases convs ids H r <;> rfl
@[go_sem] theorem cv_sc (t : Bool) (v : Value) : conv ids H (.lf t (.sc v)) = some (.lf false (.sc v)) := rfl
@[go_sem] theorem cv_sl (t : Bool) (r : List (List Leaf)) : conv ids H (.lf t (.sl r)) = some (.lf true (.sl r)) := rfl
@[go_sem] theorem cv_nl : conv ids H .nl = some .nl := rfl
@[go_sem] theorem cv_un : conv ids H .un = some .un := rfl
@[go_sem] theorem cv_ag (l : List LV) : conv ids H (.ag l) = (convs ids H l).map .ag := rfl
@[go_sem] theorem cv_os (id es lo len mc : Nat) (ex : Bool) : conv ids H (.os id es lo len mc ex) = cvO (pos ids id) (H id) es lo len mc ex := by
 simp only [conv,conv1]
 unfold cvO
 cases pos ids id with
 | some k => rfl
 | none =>
  rcases H id with _ | ⟨fr,o⟩
  ·rfl
  ·cases o <;> rfl
@[go_sem] theorem c1_sc (t : Bool) (v : Value) : conv1 ids H (.lf t (.sc v)) = some (.lf false (.sc v)) := rfl
@[go_sem] theorem c1_sl (t : Bool) (r : List (List Leaf)) : conv1 ids H (.lf t (.sl r)) = some (.lf true (.sl r)) := rfl
@[go_sem] theorem c1_nl : conv1 ids H .nl = some .nl := rfl
@[go_sem] theorem c1_un : conv1 ids H .un = some .un := rfl
@[go_sem] theorem c1_os (id es lo len mc : Nat) (ex : Bool) : conv1 ids H (.os id es lo len mc ex) = cvO (pos ids id) (H id) es lo len mc ex := by
 simp only [conv1]
 unfold cvO
 cases pos ids id with
 | some k => rfl
 | none =>
  rcases H id with _ | ⟨fr,o⟩
  ·rfl
  ·cases o <;> rfl
@[go_sem] theorem cvO_s (k : Nat) (o : Option (Bool × Ob)) (es lo len mc : Nat) (ex : Bool) : cvO (some k) o es lo len mc ex = some (.os k es lo len mc ex) := rfl
@[go_sem] theorem cvO_n (fr t : Bool) (es' : Nat) (rows : List (List Leaf)) (es lo len mc : Nat) (ex : Bool) : cvO none (some (fr,.arr t es' rows)) es lo len mc ex = if es' = es ∧ lo + len ≤ rows.length then some (.lf true (.sl ((rows.drop lo).take len))) else none := rfl
@[go_sem] theorem cvO_d (fr : Bool) (ss : List DSh) (rows : List (List Leaf)) (es lo len mc : Nat) (ex : Bool) : cvO none (some (fr,.deep ss rows)) es lo len mc ex = if ss.length = es ∧ lo + len ≤ rows.length then some (.lf true (.sl ((rows.drop lo).take len))) else none := rfl
@[go_sem] theorem pos_nil (id : Nat) : pos [] id = none := rfl
@[go_sem] theorem pos_cons (i : Nat) (r : List Nat) (id : Nat) : pos (i :: r) id = if id = i then some 0 else (pos r id).map (· + 1) := rfl
end S
end Go.TL

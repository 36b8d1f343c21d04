import Derived.Test.YteonagfnhdlfcaaGreatDoorTlAuto
set_option linter.unusedSimpArgs false
set_option linter.unusedVariables false
namespace Go.TL
section
variable {E : Env} {s : St} {st : List Fm}
theorem Gh_pack {id : Nat} {ops : Array Oper} {dr : Bool} (k : Nat) (h : Gh E false id ops dr (s.pack k) st) (hp : packP s.H k := by ((try simp (disch := first | assumption | (simp only [List.length_set]; assumption)) only [go_sem,Nat.reduceAdd,Nat.reduceMul,Nat.reduceSub,Nat.reduceEqDiff,↓reduceIte,Nat.reduceLT,reduceCtorEq,Nat.reduceLeDiff,Int.reduceToNat,Int.reduceEq,Int.reduceLE,Int.reduceLT,Nat.reduceBEq]); (repeat' first | done | rfl | omega | assumption | refine And.intro ?_ ?_ | (simp; done) | (simp; omega)))) : Gh E true id ops dr s st := Gh_weak _ (weak_pack k hp) h
end
end Go.TL
namespace Go.TL
open Go
def cvR : Option (List Leaf) → Option LV
 | some l => some (.ra true l)
 | none => none
def cvL : Option Leaf → Option (List Leaf) → Option (List Leaf)
 | some x,some y => some (x :: y)
 | _,_ => none
def lfO (o : Option (Bool × Ob)) (es lo len : Nat) : Option Leaf := match o with
 | some (_,.arr _ es' rows) => if es' = es ∧ lo + len ≤ rows.length then some (.sl ((rows.drop lo).take len)) else none
 | some (_,.deep ss rows) => if ss.length = es ∧ lo + len ≤ rows.length then some (.sl ((rows.drop lo).take len)) else none
 | _ => none
def cvPb (p : Option Nat) (o : Option (Bool × Ob)) (H : Heap) (off : Nat) : Option LV := match p with
 | some k => some (.pb k off)
 | none => match o with
  | some (_,.box ls) => cvR (leavesS H (ls.drop off))
  | _ => none
def cvPe (p : Option Nat) (o : Option (Bool × Ob)) (H : Heap) (es i off : Nat) : Option LV := match p with
 | some k => some (.pe k es i off)
 | none => match o with
  | some (_,.arr _ es' rows) => if es' = es ∧ i < rows.length then some (.ra true ((rows.getD i []).drop off)) else none
  | some (_,.deep ss rows) => if ss.length = es ∧ i < rows.length then some (.ra true ((rows.getD i []).drop off)) else none
  | some (_,.foc ss _ p ks) => if ss.length = es ∧ i = p then cvR (leavesS H (ks.drop off)) else none
  | _ => none
def hdO (k : Nat) : Option Ob → Option HL → Option HL
 | some o,some l => some ((k,some (false,o)) :: l)
 | _,_ => none
def hdI (ids : List Nat) (H : Heap) (k : Nat) (o : Option (Bool × Ob)) (r : Option HL) : Option HL := match o with
 | some (_,o) => hdO k (convOb ids H o) r
 | none => none
namespace S
variable (ids : List Nat) (H : Heap)
@[go_sem] theorem mapN {α β : Type} (f : α → β) : Option.map f none = none := rfl
@[go_sem] theorem mapS {α β : Type} (f : α → β) (a : α) : Option.map f (some a) = some (f a) := rfl
@[go_sem] theorem ls_nil : leavesS H [] = some [] := rfl
@[go_sem] theorem ls_cons (lv : LV) (r : List LV) : leavesS H (lv :: r) = cvL (leafS H lv) (leavesS H r) := by
 simp only [leavesS]
 unfold cvL
 cases leafS H lv <;> cases leavesS H r <;> rfl
@[go_sem] theorem cvL_ (x : Leaf) (y : List Leaf) : cvL (some x) (some y) = some (x :: y) := rfl
@[go_sem] theorem cvR_ (y : List Leaf) : cvR (some y) = some (.ra true y) := rfl
@[go_sem] theorem lS_lf (t : Bool) (l : Leaf) : leafS H (.lf t l) = some l := rfl
@[go_sem] theorem lS_nl : leafS H .nl = some (.sl []) := rfl
@[go_sem] theorem lS_os (id es lo len mc : Nat) (ex : Bool) : leafS H (.os id es lo len mc ex) = lfO (H id) es lo len := by
 simp only [leafS]
 unfold lfO
 rcases H id with _ | ⟨fr,o⟩
 ·rfl
 ·cases o <;> rfl
@[go_sem] theorem lfO_a (fr t : Bool) (es' : Nat) (rows : List (List Leaf)) (es lo len : Nat) : lfO (some (fr,.arr t es' rows)) es lo len = if es' = es ∧ lo + len ≤ rows.length then some (.sl ((rows.drop lo).take len)) else none := rfl
@[go_sem] theorem lfO_d (fr : Bool) (ss : List DSh) (rows : List (List Leaf)) (es lo len : Nat) : lfO (some (fr,.deep ss rows)) es lo len = if ss.length = es ∧ lo + len ≤ rows.length then some (.sl ((rows.drop lo).take len)) else none := rfl
@[go_sem] theorem c1_pb (id off : Nat) : conv1 ids H (.pb id off) = cvPb (pos ids id) (H id) H off := by
 simp only [conv1]
 unfold cvPb
 cases pos ids id with
 | some k => rfl
 | none =>
  rcases H id with _ | ⟨fr,o⟩
  ·rfl
  ·cases o with
   | box ls => simp only; cases leavesS H (ls.drop off) <;> rfl
   | _ => rfl
@[go_sem] theorem cv_pb (id off : Nat) : conv ids H (.pb id off) = cvPb (pos ids id) (H id) H off := c1_pb ids H id off
@[go_sem] theorem cvPb_s (k : Nat) (o : Option (Bool × Ob)) (off : Nat) : cvPb (some k) o H off = some (.pb k off) := rfl
@[go_sem] theorem cvPb_0 (fr : Bool) (ls : List LV) : cvPb none (some (fr,.box ls)) H 0 = cvR (leavesS H ls) := rfl
@[go_sem] theorem c1_pe (id es i off : Nat) : conv1 ids H (.pe id es i off) = cvPe (pos ids id) (H id) H es i off := by
 simp only [conv1]
 unfold cvPe
 cases pos ids id with
 | some k => rfl
 | none =>
  rcases H id with _ | ⟨fr,o⟩
  ·rfl
  ·cases o with
   | foc ss rows p ks => simp only; split <;> (try rfl)
   | _ => rfl
@[go_sem] theorem cv_pe (id es i off : Nat) : conv ids H (.pe id es i off) = cvPe (pos ids id) (H id) H es i off := c1_pe ids H id es i off
@[go_sem] theorem cvPe_s (k : Nat) (o : Option (Bool × Ob)) (es i off : Nat) : cvPe (some k) o H es i off = some (.pe k es i off) := rfl
@[go_sem] theorem cvPe_d {α : Type} [Inhabited α] (fr : Bool) (ss : List DSh) (f : α → List Leaf) (l : List α) (es i : Nat) (h : i < l.length) : cvPe none (some (fr,.deep ss (l.map f))) H es i 0 = if ss.length = es then some (.ra true (f (nth l i))) else none := by
 have e : (l.map f).getD i [] = f (nth l i) := rowGet h
 show (if ss.length = es ∧ i < (l.map f).length then some (LV.ra true (((l.map f).getD i []).drop 0)) else none) = _
 rw [e,List.drop_zero]
 by_cases hs : ss.length = es
 ·rw [if_pos ⟨hs,by simpa using h⟩,if_pos hs]
 ·rw [if_neg fun h => hs h.1,if_neg hs]
@[go_sem] theorem cvPe_f (fr : Bool) (ss : List DSh) (rows : List (List Leaf)) (p : Nat) (ks : List LV) (es i : Nat) : cvPe none (some (fr,.foc ss rows p ks)) H es i 0 = if ss.length = es ∧ i = p then cvR (leavesS H ks) else none := rfl
@[go_sem] theorem hd_nil (k : Nat) : handed ids H k [] = some [] := rfl
@[go_sem] theorem hd_cons (k id : Nat) (r : List Nat) : handed ids H k (id :: r) = hdI ids H k (H id) (handed ids H (k + 1) r) := by
 simp only [handed]
 unfold hdI hdO
 rcases H id with _ | ⟨fr,o⟩
 ·rfl
 ·cases handed ids H (k + 1) r with
  | none => simp only; cases convOb ids H o <;> rfl
  | some l => simp only; cases convOb ids H o <;> rfl
@[go_sem] theorem hdI_ (k : Nat) (fr : Bool) (o : Ob) (r : Option HL) : hdI ids H k (some (fr,o)) r = hdO k (convOb ids H o) r := rfl
@[go_sem] theorem hdO_ (k : Nat) (o : Ob) (l : HL) : hdO k (some o) (some l) = some ((k,some (false,o)) :: l) := rfl
@[go_sem] theorem co_box (ls : List LV) : convOb ids H (.box ls) = (convs ids H ls).map .box := rfl
@[go_sem] theorem co_arr (t : Bool) (es : Nat) (rows : List (List Leaf)) : convOb ids H (.arr t es rows) = some (.arr true es rows) := rfl
@[go_sem] theorem co_deep (ss : List DSh) (rows : List (List Leaf)) : convOb ids H (.deep ss rows) = some (.deep ss rows) := rfl
@[go_sem] theorem co_foc (ss : List DSh) (rows : List (List Leaf)) (p : Nat) (ks : List LV) : convOb ids H (.foc ss rows p ks) = (convs ids H ks).map (.foc ss rows p) := rfl
end S
section
variable {E : Env} {s : St} {st : List Fm}
theorem Cl_give {g : FuncId} {caps args args1 args' : List LV} {ids : List Nat} {H0 H1 : HL} {nxr : Nat} {res : LV} {wd dst : Option Nat} {md : Md} {all : Array Oper} {r : List Oper} (h : Fn E.P g args' H0 ids.length res H1 nxr)
  (h1 : convAll ids (hp s.H) (args ++ caps) = some args1) (hf : FitAll args1 args') (h3 : handed ids (hp s.H) 0 ids = some H0) (h4 : ids.Nodup) (h5 : (shownAll ids (hp s.H) (args ++ caps)).all (fun i => !ids.contains i) = true)
  (h6 : free res = true ∧ ∀ p ∈ H1,∀ o,p.2 = some o → freeOb o.2 = true) (h7 : (List.range ids.length).all (fun k => (look H1 k).isSome) = true)
  (hK : R E (md.nx wd s.H (merged ids (hp s.H) s.nx H1 s.H)) all r (s.put dst (back ids s.nx res) (merged ids (hp s.H) s.nx H1 s.H) (s.nx + (nxr - ids.length))) st) : Cl E (.fn g caps) args wd dst md all r s st := by
 have h5' : ∀ i ∈ shownAll ids (hp s.H) (args ++ caps),i ∉ ids := fun i hi hm => by
  have := List.all_eq_true.1 h5 i hi
  rw [List.contains_iff_mem.2 hm] at this
  cases this
 unfold Cl
 exact ⟨h.1,ids,args',args1,H0,res,H1,nxr,h1,hf,h3,h4,h5',h.2,.inr h6,fun k hk => List.all_eq_true.1 h7 k (List.mem_range.2 hk),hK⟩
theorem Cl_gA {g : FuncId} {caps args args' : List LV} (ids : List Nat) {H0 H1 : HL} {nxr : Nat} {res : LV} {wd dst : Option Nat} {md : Md} {all : Array Oper} {l : List Oper} (h : Fn E.P g args' H0 ids.length res H1 nxr)
  (hK : R E (md.nx wd s.H (merged ids (hp s.H) s.nx H1 s.H)) all l (s.put dst (back ids s.nx res) (merged ids (hp s.H) s.nx H1 s.H) (s.nx + (nxr - ids.length))) st)
  (h1 : convAll ids (hp s.H) (args ++ caps) = some args' := by first | rfl | (simp (disch := first | assumption | (simp only [List.length_set]; assumption)) only [go_sem,Nat.reduceAdd,Nat.reduceMul,Nat.reduceSub,Nat.reduceEqDiff,↓reduceIte,Nat.reduceLT,reduceCtorEq,Nat.reduceLeDiff,Int.reduceToNat,Int.reduceEq,Int.reduceLE,Int.reduceLT,Nat.reduceBEq]; first | done | rfl) | (simp only [List.length_append,List.length_cons,List.length_nil,List.length_map,List.length_set,List.length_replicate,Nat.zero_add,Nat.reduceAdd]; rfl) | (simp (disch := first | assumption | (simp only [List.length_set]; assumption)) only [go_sem,Nat.reduceAdd,Nat.reduceMul,Nat.reduceSub,Nat.reduceEqDiff,↓reduceIte,Nat.reduceLT,reduceCtorEq,Nat.reduceLeDiff,Int.reduceToNat,Int.reduceEq,Int.reduceLE,Int.reduceLT,Nat.reduceBEq]; simp only [List.length_append,List.length_cons,List.length_nil,List.length_map,List.length_set,List.length_replicate,Nat.zero_add,Nat.reduceAdd]; rfl))
  (h3 : handed ids (hp s.H) 0 ids = some H0 := by first | rfl | (simp (disch := first | assumption | (simp only [List.length_set]; assumption)) only [go_sem,Nat.reduceAdd,Nat.reduceMul,Nat.reduceSub,Nat.reduceEqDiff,↓reduceIte,Nat.reduceLT,reduceCtorEq,Nat.reduceLeDiff,Int.reduceToNat,Int.reduceEq,Int.reduceLE,Int.reduceLT,Nat.reduceBEq]; first | done | rfl) | (simp only [List.length_append,List.length_cons,List.length_nil,List.length_map,List.length_set,List.length_replicate,Nat.zero_add,Nat.reduceAdd]; rfl) | (simp (disch := first | assumption | (simp only [List.length_set]; assumption)) only [go_sem,Nat.reduceAdd,Nat.reduceMul,Nat.reduceSub,Nat.reduceEqDiff,↓reduceIte,Nat.reduceLT,reduceCtorEq,Nat.reduceLeDiff,Int.reduceToNat,Int.reduceEq,Int.reduceLE,Int.reduceLT,Nat.reduceBEq]; simp only [List.length_append,List.length_cons,List.length_nil,List.length_map,List.length_set,List.length_replicate,Nat.zero_add,Nat.reduceAdd]; rfl)) (h4 : ids.Nodup := by decide) (h5 : (shownAll ids (hp s.H) (args ++ caps)).all (fun i => !ids.contains i) = true := by rfl) (h6 : free res = true ∧ ∀ p ∈ H1,∀ o,p.2 = some o → freeOb o.2 = true := by exact ⟨rfl,by simp [freeOb,free1]⟩) (h7 : (List.range ids.length).all (fun k => (look H1 k).isSome) = true := by rfl) : Cl E (.fn g caps) args wd dst md all l s st :=
 Cl_give h h1 (FitAll.refl _) h3 h4 h5 h6 h7 hK
end
end Go.TL

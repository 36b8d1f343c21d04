import Derived.Test.YtjkeoippmlmfbaaGreatDoorTlRun
set_option linter.unusedSimpArgs false
set_option linter.unusedVariables false
namespace Go.TL
open Go

theorem Fit1.refl (a : LV) : Fit1 a a := .same a
theorem FitL.refl : ∀ l : List LV,FitL l l
  | [] => trivial
  | a :: r => ⟨.same a,FitL.refl r⟩
theorem Fit.refl (a : LV) : Fit a a := by
  cases a <;> first | exact FitL.refl _ | exact ⟨rfl,FitL.refl _⟩ | exact Fit1.same _
theorem FitAll.refl : ∀ l : List LV,FitAll l l
  | [] => trivial
  | a :: r => ⟨Fit.refl a,FitAll.refl r⟩

/-- A call at which nothing is handed over,and nothing made. -/
theorem Cl_use0 {E : Env} {g : FuncId} {caps args args' : List LV} {res : LV} {wd dst : Option Nat} {md : Md} {all : Array Oper} {r : List Oper} {s : St} {st : List Fm} (h : Fn E.P g args' [] 0 res [] 0) (h1 : convAll [] (hp s.H) (args ++ caps) = some args')
    (h2 : shownAll [] (hp s.H) (args ++ caps) = [] ∨ free res = true) (hK : R E (md.nx wd s.H s.H) all r (s.put dst (back [] s.nx res) s.H s.nx) st) : Cl E (.fn g caps) args wd dst md all r s st := by
  unfold Cl
  refine ⟨h.1,[],args',args',[],res,[],0,h1,FitAll.refl _,rfl,List.nodup_nil,fun i _ hi => by simp at hi,h.2,h2.imp id fun h => ⟨h,fun p hp => by simp at hp⟩,fun k hk => by simp at hk,?_⟩
  simpa [merged] using hK

/-- A call. -/
theorem Cl_use {E : Env} {g : FuncId} {caps args args' : List LV} {ids : List Nat} {H0 H1 : HL} {nxr : Nat} {res : LV} {wd dst : Option Nat} {md : Md} {all : Array Oper} {r : List Oper} {s : St} {st : List Fm} (h : Fn E.P g args' H0 ids.length res H1 nxr)
    (h1 : convAll ids (hp s.H) (args ++ caps) = some args') (h3 : handed ids (hp s.H) 0 ids = some H0) (h4 : ids.Nodup) (h5 : ∀ i ∈ shownAll ids (hp s.H) (args ++ caps),i ∉ ids)
    (h6 : shownAll ids (hp s.H) (args ++ caps) = [] ∨ (free res = true ∧ ∀ p ∈ H1,∀ o,p.2 = some o → freeOb o.2 = true)) (h7 : ∀ k,k < ids.length → (look H1 k).isSome = true)
    (hK : R E (md.nx wd s.H (merged ids (hp s.H) s.nx H1 s.H)) all r (s.put dst (back ids s.nx res) (merged ids (hp s.H) s.nx H1 s.H) (s.nx + (nxr - ids.length))) st) : Cl E (.fn g caps) args wd dst md all r s st := by
  unfold Cl
  exact ⟨h.1,ids,args',args',H0,res,H1,nxr,h1,FitAll.refl _,h3,h4,h5,h.2,h6,h7,hK⟩

/-- A call at which own objects are handed over,and nothing is shown. -/
theorem Cl_own {E : Env} {g : FuncId} {caps args args' : List LV} {ids : List Nat} {H0 H1 : HL} {nxr : Nat} {res : LV} {wd dst : Option Nat} {md : Md} {all : Array Oper} {r : List Oper} {s : St} {st : List Fm} (h : Fn E.P g args' H0 ids.length res H1 nxr)
    (h1 : convAll ids (hp s.H) (args ++ caps) = some args') (h3 : handed ids (hp s.H) 0 ids = some H0) (h4 : ids.Nodup) (h5 : shownAll ids (hp s.H) (args ++ caps) = []) (h7 : (List.range ids.length).all (fun k => (look H1 k).isSome) = true)
    (hK : R E (md.nx wd s.H (merged ids (hp s.H) s.nx H1 s.H)) all r (s.put dst (back ids s.nx res) (merged ids (hp s.H) s.nx H1 s.H) (s.nx + (nxr - ids.length))) st) : Cl E (.fn g caps) args wd dst md all r s st :=
  Cl_use h h1 h3 h4 (fun i hi => by rw [h5] at hi; simp at hi) (.inl h5) (fun k hk => List.all_eq_true.1 h7 k (List.mem_range.2 hk)) hK

namespace S
variable (ids : List Nat) (nx : Nat)
theorem bk_lf (t : Bool) (l : Leaf) : back ids nx (.lf t l) = .lf t l := rfl
theorem bk_nl : back ids nx .nl = .nl := rfl
theorem bk_os (k es lo len mc : Nat) (ex : Bool) : back ids nx (.os k es lo len mc ex) = (match ids[k]? with
    | some id => .os id es lo len mc ex
    | none => .os (nx + (k - ids.length)) es lo len mc ex) := rfl
theorem bk_pb (k off : Nat) : back ids nx (.pb k off) = (match ids[k]? with
    | some id => .pb id off
    | none => .pb (nx + (k - ids.length)) off) := rfl
theorem bk_ag (ls : List LV) : back ids nx (.ag ls) = .ag (ls.map (back1 ids nx)) := rfl
theorem bk_tu (ls : List LV) : back ids nx (.tu ls) = .tu (ls.map (back2 ids nx)) := rfl
theorem b2_lf (t : Bool) (l : Leaf) : back2 ids nx (.lf t l) = .lf t l := rfl
theorem b2_nl : back2 ids nx .nl = .nl := rfl
theorem b2_os (k es lo len mc : Nat) (ex : Bool) : back2 ids nx (.os k es lo len mc ex) = (match ids[k]? with
    | some id => .os id es lo len mc ex
    | none => .os (nx + (k - ids.length)) es lo len mc ex) := rfl
theorem b2_pb (k off : Nat) : back2 ids nx (.pb k off) = (match ids[k]? with
    | some id => .pb id off
    | none => .pb (nx + (k - ids.length)) off) := rfl
theorem b2_ag (ls : List LV) : back2 ids nx (.ag ls) = .ag (ls.map (back1 ids nx)) := rfl
theorem b1_lf (t : Bool) (l : Leaf) : back1 ids nx (.lf t l) = .lf t l := rfl
theorem b1_nl : back1 ids nx .nl = .nl := rfl
theorem b1_os (k es lo len mc : Nat) (ex : Bool) : back1 ids nx (.os k es lo len mc ex) = (match ids[k]? with
    | some id => .os id es lo len mc ex
    | none => .os (nx + (k - ids.length)) es lo len mc ex) := rfl
theorem b1_pb (k off : Nat) : back1 ids nx (.pb k off) = (match ids[k]? with
    | some id => .pb id off
    | none => .pb (nx + (k - ids.length)) off) := rfl
theorem bo_box (ls : List LV) : backOb ids nx (.box ls) = .box (ls.map (back1 ids nx)) := rfl
theorem bo_arr (t : Bool) (es : Nat) (rows : List (List Leaf)) : backOb ids nx (.arr t es rows) = .arr t es rows := rfl
theorem mg_nil (H : Heap) (old : HL) : merged ids H nx [] old = old := rfl
theorem mg_cons (H : Heap) (k : Nat) (x : Option (Bool × Ob)) (r old : HL) : merged ids H nx ((k,x) :: r) old = (num ids nx k,mergedOb ids H nx k x) :: merged ids H nx r old := rfl
theorem mo (H : Heap) (k : Nat) (x : Option (Bool × Ob)) : mergedOb ids H nx k x = (match ids[k]? with
  | some id => x.bind fun o => (H id).map fun q => (flagOb ids H q.1 o.2,backOb ids nx o.2)
  | none => x.map fun o => (o.1,backOb ids nx o.2)) := rfl
theorem bo_deep (ss : List DSh) (rows : List (List Leaf)) : backOb ids nx (.deep ss rows) = .deep ss rows := rfl
theorem fl_box (H : Heap) (q : Bool) (ls : List LV) : flagOb ids H q (.box ls) = q := rfl
theorem fl_arr (H : Heap) (q t : Bool) (es : Nat) (rows : List (List Leaf)) : flagOb ids H q (.arr t es rows) = q := rfl
theorem fl_deep (H : Heap) (q : Bool) (ss : List DSh) (rows : List (List Leaf)) : flagOb ids H q (.deep ss rows) = (q && allFr H ids) := rfl
theorem af_nil (H : Heap) : allFr H [] = true := rfl
theorem af_cons (H : Heap) (id : Nat) (r : List Nat) : allFr H (id :: r) = ((match H id with | some (b,_) => b | none => true) && allFr H r) := rfl
theorem nm (k : Nat) : num ids nx k = (match ids[k]? with
  | some id => id
  | none => nx + (k - ids.length)) := rfl
theorem rs_1 (x : LV) : result [x] = x := rfl
theorem rs_0 : result [] = .tu [] := rfl
theorem rs_2 (x y : LV) (r : List LV) : result (x :: y :: r) = .tu (x :: y :: r) := rfl
end S

/-- The end,told for simp. -/
theorem S.ends (tab : Tab) (rs : List ResultVar) (res : LV) (H1 : HL) (nxr : Nat) (T : List (Nat × LV)) (H : HL) (nx nt : Nat) (e : Exit) : Ends tab rs res H1 nxr e ⟨T,H,nx,nt⟩ = ((e = .normal ∨ e = .ret) ∧ nx ≤ nxr ∧ (∃ l,resAll tab ⟨T,H,nx,nt⟩ rs = some l ∧ result l = res) ∧ KeepsH H1 H) := rfl
theorem S.kh_nil (H : HL) : KeepsH [] H = True := rfl
theorem S.kh_cons (k : Nat) (x : Option (Bool × Ob)) (r H : HL) : KeepsH ((k,x) :: r) H = (hp H k = x ∧ KeepsH r H) := rfl
end Go.TL

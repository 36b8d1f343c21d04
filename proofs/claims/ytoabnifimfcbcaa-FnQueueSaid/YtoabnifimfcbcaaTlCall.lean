/- Calls: what is handed over, what a contract says, what comes back. -/
import Derived.Test.YtoabnifimfcbcaaTlElem
set_option linter.unusedSimpArgs false
set_option linter.unusedVariables false
namespace Go.TL
open Go

abbrev HL := List (Nat × Option (Bool × Ob))

def rng (loc : Nat → Loc) (H : Heap) : CellSet := fun b k => ∃ id o, H id = some o ∧ inR (loc id) b k

def ctx0 (F : CellSet) (loc : Nat → Loc) (m : Nat) : Ctx := ⟨F, fun _ _ => False, loc, m⟩

/-- THE CONTRACT: called at 'args' (and the objects H0, numbered from 0 to m - 1, which it may write) the function returns 'res', and leaves the objects H1. -/
def FnOk (P : Program) (f : FuncId) (args : List LV) (H0 : HL) (m : Nat) (res : LV) (H1 : HL) (nxr : Nat) : Prop :=
  ∀ (w : World) (F : CellSet) (loc : Nat → Loc) (vs : Array Value), Sit w (frm (rng loc (hp H0))) (ctx0 F loc m) (hp H0) w → vs.size = args.length →
    (∀ j (hj : j < args.length), ∃ v, vs[j]? = some v ∧ Cv w (ctx0 F loc m) (args[j]) v) →
    Calls P f vs w fun e w' => ∃ v c', e = .returned v ∧ (ctx0 F loc m).Le c' ∧ c'.nx = nxr ∧ Sit w (frm (rng loc (hp H0))) c' (hp H1) w' ∧ Cv w' c' res v

/-- The place of a number in a list. -/
def pos (ids : List Nat) (id : Nat) : Option Nat :=
  match ids with
  | [] => none
  | i :: r => if id = i then some 0 else (pos r id).map (· + 1)

theorem pos_get {ids : List Nat} {id k : Nat} (h : pos ids id = some k) : ids[k]? = some id := by
  induction ids generalizing k with
  | nil => cases h
  | cons i r ih =>
    unfold pos at h
    split at h
    · rename_i e; cases h; simp [e]
    · cases hp : pos r id with
      | none => rw [hp] at h; cases h
      | some j => rw [hp] at h; cases h; simpa using ih hp

/-- What a cell is to the callee: own objects that are handed over keep their place; others are shown as they stand. -/
def conv1 (ids : List Nat) (H : Heap) : LV → Option LV
  | .un => some .un
  | .lf _ (.sc v) => some (.lf false (.sc v))
  | .lf _ (.sl rows) => some (.lf true (.sl rows))
  | .nl => some .nl
  | .os id es lo len mc ex => match pos ids id with
    | some k => some (.os k es lo len mc ex)
    | none => match H id with
      | some (_, .arr _ es' rows) => if es' = es ∧ lo + len ≤ rows.length then some (.lf true (.sl ((rows.drop lo).take len))) else none
      | _ => none
  | .pb id off => match pos ids id with
    | some k => some (.pb k off)
    | none => match H id with
      | some (_, .box ls) => match leaves? (ls.drop off) with
        | some (_, l) => some (.ra true l)
        | none => none
      | _ => none
  | .pe id es i off => match pos ids id with
    | some k => some (.pe k es i off)
    | none => none
  | .ra _ ls => some (.ra true ls)
  | .fn f [] => some (.fn f [])
  | _ => none

def convs (ids : List Nat) (H : Heap) : List LV → Option (List LV)
  | [] => some []
  | lv :: r => match conv1 ids H lv, convs ids H r with
    | some x, some y => some (x :: y)
    | _, _ => none

def conv (ids : List Nat) (H : Heap) : LV → Option LV
  | .ag ls => (convs ids H ls).map .ag
  | .fn f ls => (convs ids H ls).map (.fn f)
  | lv => conv1 ids H lv

def convAll (ids : List Nat) (H : Heap) : List LV → Option (List LV)
  | [] => some []
  | lv :: r => match conv ids H lv, convAll ids H r with
    | some x, some y => some (x :: y)
    | _, _ => none

/-- The objects of which a cell is shown. -/
def shown1 (ids : List Nat) : LV → List Nat
  | .os id .. | .pb id _ => match pos ids id with
    | some _ => []
    | none => [id]
  | _ => []

def shown (ids : List Nat) : LV → List Nat
  | .ag ls | .fn _ ls => ls.flatMap (shown1 ids)
  | lv => shown1 ids lv

def convOb (ids : List Nat) (H : Heap) : Ob → Option Ob
  | .box ls => (convs ids H ls).map .box
  | .arr _ es rows => some (.arr true es rows)

def shownOb (ids : List Nat) : Ob → List Nat
  | .box ls => ls.flatMap (shown1 ids)
  | .arr .. => []

/-- What is handed over to be written. -/
def handed (ids : List Nat) (H : Heap) : Nat → List Nat → Option HL
  | _, [] => some []
  | k, id :: r => match H id, handed ids H (k + 1) r with
    | some (_, o), some l => match convOb ids H o with
      | some o' => some ((k, some (false, o')) :: l)
      | none => none
    | _, _ => none

def shownAll (ids : List Nat) (H : Heap) (args : List LV) : List Nat :=
  args.flatMap (shown ids) ++ ids.flatMap fun id => match H id with
    | some (_, o) => shownOb ids o
    | none => []

/-- What a callee's cell is to the caller. -/
def back1 (ids : List Nat) (nx : Nat) : LV → LV
  | .os k es lo len mc ex => match ids[k]? with
    | some id => .os id es lo len mc ex
    | none => .os (nx + (k - ids.length)) es lo len mc ex
  | .pb k off => match ids[k]? with
    | some id => .pb id off
    | none => .pb (nx + (k - ids.length)) off
  | .lf t l => .lf t l
  | .nl => .nl
  | .ra t ls => .ra t ls
  | .fn f [] => .fn f []
  | _ => .un

def back2 (ids : List Nat) (nx : Nat) : LV → LV
  | .ag ls => .ag (ls.map (back1 ids nx))
  | lv => back1 ids nx lv

def back (ids : List Nat) (nx : Nat) : LV → LV
  | .tu ls => .tu (ls.map (back2 ids nx))
  | lv => back2 ids nx lv

def backOb (ids : List Nat) (nx : Nat) : Ob → Ob
  | .box ls => .box (ls.map (back1 ids nx))
  | .arr t es rows => .arr t es rows

/-- Does a cell hang on what was handed in? -/
def free1 : LV → Bool
  | .lf true (.sl _) | .ra true _ => false
  | _ => true
def free2 : LV → Bool
  | .ag ls => ls.all free1
  | lv => free1 lv
def free : LV → Bool
  | .tu ls => ls.all free2
  | lv => free2 lv
def freeOb : Ob → Bool
  | .box ls => ls.all free1
  | .arr t _ _ => !t

/-- The caller's number of a callee's object. -/
def num (ids : List Nat) (nx k : Nat) : Nat :=
  match ids[k]? with
  | some id => id
  | none => nx + (k - ids.length)

def mergedOb (ids : List Nat) (H : Heap) (nx k : Nat) (x : Option (Bool × Ob)) : Option (Bool × Ob) :=
  match ids[k]? with
  | some id => x.bind fun o => (H id).map fun q => (q.1, backOb ids nx o.2)
  | none => x.map fun o => (o.1, backOb ids nx o.2)

/-- The caller's objects behind the call. -/
def merged (ids : List Nat) (H : Heap) (nx : Nat) (H1 : HL) (old : HL) : HL :=
  H1.map (fun p => (num ids nx p.1, mergedOb ids H nx p.1 p.2)) ++ old

/-- nil where an empty slice is taken. -/
inductive Fit1 : LV → LV → Prop
  | same (a : LV) : Fit1 a a
  | nil (t : Bool) : Fit1 .nl (.lf t (.sl []))
  | un (a : LV) : Fit1 a .un

theorem Fit1.ok {w : World} {c : Ctx} {a b : LV} {v : Value} (h : Fit1 a b) (hc : Cv w c a v) : Cv w c b v := by
  cases h with
  | same => exact hc
  | nil t => cases hc with
    | nl => exact .lf .nil
  | un => exact .un _

def FitL : List LV → List LV → Prop
  | [], [] => True
  | a :: r, b :: q => Fit1 a b ∧ FitL r q
  | _, _ => False

def Fit : LV → LV → Prop
  | .ag l, .ag k => FitL l k
  | .fn f l, .fn g k => f = g ∧ FitL l k
  | a, b => Fit1 a b

theorem fitL_get {w : World} {c : Ctx} : ∀ {l k : List LV}, FitL l k → l.length = k.length ∧ ∀ j (hj : j < l.length) (hj' : j < k.length) v, Cv w c (l[j]) v → Cv w c (k[j]) v
  | [], [], _ => ⟨rfl, fun j hj => by simp at hj⟩
  | a :: r, b :: q, h => by
    obtain ⟨h1, h2⟩ := h
    obtain ⟨hn, ih⟩ := fitL_get (w := w) (c := c) h2
    refine ⟨by simp [hn], fun j hj hj' v hv => ?_⟩
    cases j with
    | zero => exact h1.ok hv
    | succ j => exact ih j (by simpa using hj) (by simpa using hj') v hv
  | [], _ :: _, h => h.elim
  | _ :: _, [], h => h.elim

theorem Fit.ok {w : World} {c : Ctx} {a b : LV} {v : Value} (h : Fit a b) (hc : Cv w c a v) : Cv w c b v := by
  unfold Fit at h
  split at h
  · obtain ⟨hn, hg⟩ := fitL_get (w := w) (c := c) h
    cases hc with
    | ag cs h1 h2 h3 => exact .ag cs (by omega) (fun j hj => h2 j (by omega)) fun j hj => hg j (by omega) hj _ (h3 j (by omega))
  · obtain ⟨rfl, h⟩ := h
    obtain ⟨hn, hg⟩ := fitL_get (w := w) (c := c) h
    cases hc with
    | fn cs h1 h2 h3 => exact .fn cs (by omega) (fun j hj => h2 j (by omega)) fun j hj => hg j (by omega) hj _ (h3 j (by omega))
  · exact h.ok hc

def FitAll : List LV → List LV → Prop
  | [], [] => True
  | a :: r, b :: q => Fit a b ∧ FitAll r q
  | _, _ => False

theorem fitAll_get {w : World} {c : Ctx} : ∀ {l k : List LV}, FitAll l k → l.length = k.length ∧ ∀ j (hj : j < l.length) (hj' : j < k.length) v, Cv w c (l[j]) v → Cv w c (k[j]) v
  | [], [], _ => ⟨rfl, fun j hj => by simp at hj⟩
  | a :: r, b :: q, h => by
    obtain ⟨h1, h2⟩ := h
    obtain ⟨hn, ih⟩ := fitAll_get (w := w) (c := c) h2
    refine ⟨by simp [hn], fun j hj hj' v hv => ?_⟩
    cases j with
    | zero => exact h1.ok hv
    | succ j => exact ih j (by simpa using hj) (by simpa using hj') v hv
  | [], _ :: _, h => h.elim
  | _ :: _, [], h => h.elim

/-! ### To the callee -/

/-- The callee's context. -/
def calleeCtx (c : Ctx) (ids snaps : List Nat) : Ctx :=
  ctx0 (fun b k => c.F b k ∨ c.G b k ∨ ∃ id, id ∈ snaps ∧ inR (c.loc id) b k) (fun k => c.loc (ids.getD k 0)) ids.length

theorem conv1_ok {w0 w : World} {W0 : Fr} {c : Ctx} {H : Heap} (s : Sit w0 W0 c H w) {ids snaps : List Nat} {lv lv' : LV} {v : Value} (h : conv1 ids H lv = some lv') (hs : ∀ i ∈ shown1 ids lv, i ∈ snaps) (hc : Cv w c lv v) :
    Cv w (calleeCtx c ids snaps) lv' v := by
  have hfs : ∀ (t : Bool) b k, c.fs t b k → (calleeCtx c ids snaps).fs true b k := by
    intro t b k x
    rcases x with x | ⟨_, x⟩
    · exact .inr ⟨rfl, .inr (.inl x)⟩
    · exact .inr ⟨rfl, .inl x⟩
  have hloc : ∀ {id k : Nat}, pos ids id = some k → (calleeCtx c ids snaps).loc k = c.loc id ∧ k < (calleeCtx c ids snaps).nx := by
    intro id k hk
    have hg := pos_get hk
    refine ⟨?_, ?_⟩
    · show c.loc (ids.getD k 0) = _
      rw [List.getD, hg]; rfl
    · show k < ids.length
      rcases Nat.lt_or_ge k ids.length with h1 | h1
      · exact h1
      · rw [List.getElem?_eq_none h1] at hg; cases hg
  cases hc with
  | un v => cases h; exact .un _
  | lf hr =>
    rename_i t l
    cases l with
    | sc u => cases h; cases hr with
      | sc hu => exact .lf (.sc hu)
    | sl rows => cases h; exact .lf (hr.sub (hfs t))
  | nl a => cases h; exact .nl a
  | os hid hl hm hx ha hn =>
    rename_i id es lo len mc cap ex a
    simp only [conv1] at h
    split at h
    · rename_i k hk
      cases h
      obtain ⟨e1, e2⟩ := hloc hk
      exact .os e2 hl hm hx (by rw [e1]; exact ha) (by rw [e1]; exact hn)
    · rename_i hk
      split at h
      · rename_i fr t es' rows ho
        split at h
        · rename_i hcond
          obtain ⟨rfl, hlen⟩ := hcond
          cases h
          have hsn : id ∈ snaps := hs id (by simp [shown1, hk])
          obtain ⟨g1, g0, g2, g3⟩ : Holds w c (c.loc id) (.arr t es' rows) := (s.own id _ ho).2
          refine .lf ?_
          by_cases hz : len = 0
          · subst hz
            rw [List.take_zero]
            exact .nil
          · rcases ha with h0 | rfl
            · omega
            have hrows : ((rows.drop lo).take len).length = len := by simp; omega
            have := @RepL.sl w ((calleeCtx c ids snaps).fs true) (c.loc id).b ((c.loc id).base + lo * es') cap es' ((rows.drop lo).take len)
              (fun i j => (w.cell? ⟨(c.loc id).b, (c.loc id).base + lo * es' + (i * es' + j), none⟩).getD undef)
              (fun r hr => g0 r (List.mem_of_mem_drop (List.mem_of_mem_take hr))) (by omega)
              (fun i j hi hj => by
                have h1 := row_lt (es := es') (i := lo + i) (j := j) (n := rows.length) (by omega) hj
                rw [Nat.add_mul] at h1
                refine ⟨.inr ⟨rfl, .inr (.inr ⟨id, hsn, rfl, by omega, by omega⟩)⟩, ?_⟩
                obtain ⟨u, hu, _⟩ := g2 (lo * es' + (i * es' + j)) (by omega)
                rw [← Nat.add_assoc] at hu
                rw [hu]; rfl)
              (fun i j hi hj => by
                have hi' : lo + i < rows.length := by omega
                have hj' : j < es' := by rw [← g0 _ (List.getElem_mem hi')]; simpa using hj
                have h1 := row_lt (es := es') (i := lo + i) (j := j) (n := rows.length) hi' hj'
                rw [Nat.add_mul] at h1
                obtain ⟨u, hu, _⟩ := g2 (lo * es' + (i * es' + j)) (by omega)
                have h3 := g3 (lo + i) j hi' (by rw [g0 _ (List.getElem_mem hi')]; exact hj') u (by rw [Nat.add_mul, Nat.add_assoc]; exact hu)
                rw [← Nat.add_assoc] at hu
                simp only [List.getElem_take, List.getElem_drop, hu, Option.getD_some]
                exact h3.sub (hfs t))
            rw [hrows] at this
            exact this
        · cases h
      · cases h
  | pb hid =>
    rename_i id off
    simp only [conv1] at h
    split at h
    · rename_i k hk
      cases h
      obtain ⟨e1, e2⟩ := hloc hk
      have := @Cv.pb w (calleeCtx c ids snaps) k off e2
      rw [e1] at this
      exact this
    · rename_i hk
      split at h
      · rename_i fr ls ho
        split at h
        · rename_i t l hl
          cases h
          have hsn : id ∈ snaps := hs id (by simp [shown1, hk])
          obtain ⟨g1, g2, g3⟩ : Holds w c (c.loc id) (.box ls) := (s.own id _ ho).2
          obtain ⟨hn, hlv⟩ := leaves_of (w := w) (c := c) hl
          have hlen : l.length = ls.length - off := by rw [hn]; simp
          refine .ra (fun j => (w.cell? ⟨(c.loc id).b, (c.loc id).base + off + j, none⟩).getD undef) (fun j hj => ?_) fun j hj => ?_
          · refine ⟨.inr ⟨rfl, .inr (.inr ⟨id, hsn, rfl, by omega, by omega⟩)⟩, ?_⟩
            obtain ⟨u, hu, _⟩ := g2 (off + j) (by omega)
            rw [← Nat.add_assoc] at hu
            rw [hu]; rfl
          · obtain ⟨u, hu, _⟩ := g2 (off + j) (by omega)
            have h3 := g3 (off + j) (by omega) u hu
            rw [← Nat.add_assoc] at hu
            simp only [hu, Option.getD_some]
            refine (hlv j (by simp; omega) hj u ?_).sub (hfs t)
            rw [List.getElem_drop]
            exact h3
        · cases h
      · cases h
  | pe hid =>
    simp only [conv1] at h
    split at h
    · rename_i k hk
      cases h
      obtain ⟨e1, e2⟩ := hloc hk
      rw [← e1]
      exact .pe e2
    · cases h
  | ra cs hS hr => cases h; exact .ra cs (fun j hj => ⟨hfs _ _ _ (hS j hj).1, (hS j hj).2⟩) fun j hj => (hr j hj).sub (hfs _)
  | ag => cases h
  | tu => cases h
  | fn cs hn hv h3 =>
    rename_i f ls vs
    cases ls with
    | nil => cases h; exact .fn cs hn (fun j hj => by simp at hj) fun j hj => by simp at hj
    | cons => cases h

theorem convs_ok {w0 w : World} {W0 : Fr} {c : Ctx} {H : Heap} (s : Sit w0 W0 c H w) {ids snaps : List Nat} : ∀ {ls ls' : List LV}, convs ids H ls = some ls' → (∀ i ∈ ls.flatMap (shown1 ids), i ∈ snaps) →
    ls'.length = ls.length ∧ ∀ j (hj : j < ls.length) (hj' : j < ls'.length) v, Cv w c (ls[j]) v → Cv w (calleeCtx c ids snaps) (ls'[j]) v
  | [], ls', h, _ => by cases h; exact ⟨rfl, fun j hj => by simp at hj⟩
  | lv :: r, ls', h, hs => by
    unfold convs at h
    split at h
    · rename_i x y h1 h2
      cases h
      obtain ⟨hn, ih⟩ := convs_ok s h2 (fun i hi => hs i (by rw [List.flatMap_cons]; exact List.mem_append_right _ hi))
      refine ⟨by simp [hn], fun j hj hj' v hv => ?_⟩
      cases j with
      | zero => exact conv1_ok s h1 (fun i hi => hs i (by rw [List.flatMap_cons]; exact List.mem_append_left _ hi)) hv
      | succ j => exact ih j (by simpa using hj) (by simpa using hj') v hv
    · cases h

theorem conv_ok {w0 w : World} {W0 : Fr} {c : Ctx} {H : Heap} (s : Sit w0 W0 c H w) {ids snaps : List Nat} {lv lv' : LV} {v : Value} (h : conv ids H lv = some lv') (hs : ∀ i ∈ shown ids lv, i ∈ snaps) (hc : Cv w c lv v) :
    Cv w (calleeCtx c ids snaps) lv' v := by
  cases lv with
  | ag ls =>
    simp only [conv] at h
    cases hq : convs ids H ls with
    | none => rw [hq] at h; cases h
    | some k =>
      rw [hq] at h; cases h
      obtain ⟨hn, hg⟩ := convs_ok s hq hs
      cases hc with
      | ag cs h1 h2 h3 => exact .ag cs (by omega) (fun j hj => h2 j (by omega)) fun j hj => hg j (by omega) hj _ (h3 j (by omega))
  | fn f ls =>
    simp only [conv] at h
    cases hq : convs ids H ls with
    | none => rw [hq] at h; cases h
    | some k =>
      rw [hq] at h; cases h
      obtain ⟨hn, hg⟩ := convs_ok s hq hs
      cases hc with
      | fn cs h1 h2 h3 => exact .fn cs (by omega) (fun j hj => h2 j (by omega)) fun j hj => hg j (by omega) hj _ (h3 j (by omega))
  | un => exact conv1_ok (lv := .un) s h hs hc
  | lf t l => exact conv1_ok (lv := .lf t l) s h hs hc
  | nl => exact conv1_ok (lv := .nl) s h hs hc
  | os a1 a2 a3 a4 a5 a6 => exact conv1_ok (lv := .os a1 a2 a3 a4 a5 a6) s h hs hc
  | pb a1 a2 => exact conv1_ok (lv := .pb a1 a2) s h hs hc
  | pe a1 a2 a3 a4 => exact conv1_ok (lv := .pe a1 a2 a3 a4) s h hs hc
  | ra a1 a2 => exact conv1_ok (lv := .ra a1 a2) s h hs hc
  | tu a1 => exact conv1_ok (lv := .tu a1) s h hs hc

theorem convAll_ok {w0 w : World} {W0 : Fr} {c : Ctx} {H : Heap} (s : Sit w0 W0 c H w) {ids snaps : List Nat} : ∀ {ls ls' : List LV}, convAll ids H ls = some ls' → (∀ i ∈ ls.flatMap (shown ids), i ∈ snaps) →
    ls'.length = ls.length ∧ ∀ j (hj : j < ls.length) (hj' : j < ls'.length) v, Cv w c (ls[j]) v → Cv w (calleeCtx c ids snaps) (ls'[j]) v
  | [], ls', h, _ => by cases h; exact ⟨rfl, fun j hj => by simp at hj⟩
  | lv :: r, ls', h, hs => by
    unfold convAll at h
    split at h
    · rename_i x y h1 h2
      cases h
      obtain ⟨hn, ih⟩ := convAll_ok s h2 (fun i hi => hs i (by rw [List.flatMap_cons]; exact List.mem_append_right _ hi))
      refine ⟨by simp [hn], fun j hj hj' v hv => ?_⟩
      cases j with
      | zero => exact conv_ok s h1 (fun i hi => hs i (by rw [List.flatMap_cons]; exact List.mem_append_left _ hi)) hv
      | succ j => exact ih j (by simpa using hj) (by simpa using hj') v hv
    · cases h

theorem convOb_ok {w0 w : World} {W0 : Fr} {c : Ctx} {H : Heap} (s : Sit w0 W0 c H w) {ids snaps : List Nat} {o o' : Ob} {L : Loc} (h : convOb ids H o = some o') (hs : ∀ i ∈ shownOb ids o, i ∈ snaps) (hc : Holds w c L o) :
    Holds w (calleeCtx c ids snaps) L o' := by
  cases o with
  | box ls =>
    simp only [convOb] at h
    cases hq : convs ids H ls with
    | none => rw [hq] at h; cases h
    | some k =>
      rw [hq] at h; cases h
      obtain ⟨hn, hg⟩ := convs_ok s hq hs
      obtain ⟨g1, g2, g3⟩ := hc
      exact ⟨by omega, g2, fun j hj v hv => hg j (by omega) hj v (g3 j (by omega) v hv)⟩
  | arr t es rows =>
    cases h
    obtain ⟨g1, g0, g2, g3⟩ := hc
    refine ⟨g1, g0, g2, fun i j hi hj v hv => (g3 i j hi hj v hv).sub fun b k x => ?_⟩
    rcases x with x | ⟨_, x⟩
    · exact .inr ⟨rfl, .inr (.inl x)⟩
    · exact .inr ⟨rfl, .inl x⟩
theorem handed_get {ids : List Nat} {H : Heap} : ∀ {k : Nat} {l : List Nat} {r : HL}, handed ids H k l = some r →
    (∀ j (hj : j < l.length), ∃ fr o o', H (l[j]) = some (fr, o) ∧ convOb ids H o = some o' ∧ hp r (k + j) = some (false, o')) ∧ ∀ i, hp r i ≠ none → k ≤ i ∧ i < k + l.length
  | k, [], r, h => by cases h; exact ⟨fun j hj => by simp at hj, fun i hi => absurd rfl hi⟩
  | k, id :: l, r, h => by
    unfold handed at h
    split at h
    · rename_i fr o l' h1 h2
      split at h
      · rename_i o' h3
        cases h
        obtain ⟨ih1, ih2⟩ := handed_get h2
        refine ⟨fun j hj => ?_, fun i hi => ?_⟩
        · cases j with
          | zero => exact ⟨fr, o, o', h1, h3, by rw [hp_cons]; exact upd_same _ _ _⟩
          | succ j =>
            obtain ⟨a, b, b', g1, g2, g3⟩ := ih1 j (by simpa using hj)
            refine ⟨a, b, b', g1, g2, ?_⟩
            rw [hp_cons, upd_ne _ _ (by omega), show k + (j + 1) = k + 1 + j by omega]
            exact g3
        · rw [hp_cons] at hi
          by_cases e : i = k
          · subst e; simp
          · rw [upd_ne _ _ e] at hi
            have := ih2 i hi
            simp; omega
      · cases h
    · cases h

theorem nodup_inj {l : List Nat} (h : l.Nodup) {i j : Nat} (hi : i < l.length) (hj : j < l.length) (e : l[i] = l[j]) : i = j := by
  rcases Nat.lt_trichotomy i j with h1 | h1 | h1
  · exact absurd e (List.pairwise_iff_getElem.1 h i j hi hj h1)
  · exact h1
  · exact absurd e.symm (List.pairwise_iff_getElem.1 h j i hj hi h1)

/-- The callee's entry. -/
theorem callee_sit {w0 w : World} {W0 : Fr} {c : Ctx} {H : Heap} (s : Sit w0 W0 c H w) {ids snaps : List Nat} {H0 : HL} (h0 : handed ids H 0 ids = some H0) (hnd : ids.Nodup)
    (hsn : ∀ i ∈ snaps, i ∉ ids ∧ H i ≠ none) (hs : ∀ id ∈ ids, ∀ o, H id = some o → ∀ i ∈ shownOb ids o.2, i ∈ snaps) :
    Sit w (frm (rng (calleeCtx c ids snaps).loc (hp H0))) (calleeCtx c ids snaps) (hp H0) w ∧
    ∀ b k, rng (calleeCtx c ids snaps).loc (hp H0) b k → ∃ id o, id ∈ ids ∧ H id = some o ∧ inR (c.loc id) b k := by
  obtain ⟨g1, g2⟩ := handed_get h0
  have hget : ∀ k o', hp H0 k = some o' → ∃ (hk : k < ids.length) (fr : Bool) (o : Ob), H (ids[k]) = some (fr, o) ∧ convOb ids H o = some o'.2 ∧ o'.1 = false ∧ (calleeCtx c ids snaps).loc k = c.loc (ids[k]) := by
    intro k o' hk
    have hlt := (g2 k (by rw [hk]; simp)).2
    rw [Nat.zero_add] at hlt
    obtain ⟨fr, o, o2, h1, h2, h3⟩ := g1 k hlt
    rw [Nat.zero_add, hk] at h3
    cases h3
    exact ⟨hlt, fr, o, h1, h2, rfl, by show c.loc (ids.getD k 0) = _; simp [hlt]⟩
  have hr : ∀ b k, rng (calleeCtx c ids snaps).loc (hp H0) b k → ∃ id o, id ∈ ids ∧ H id = some o ∧ inR (c.loc id) b k := by
    rintro b k ⟨i, o', hi, hin⟩
    obtain ⟨hk, fr, o, h1, _, _, h4⟩ := hget i o' hi
    rw [h4] at hin
    exact ⟨_, _, List.getElem_mem hk, h1, hin⟩
  refine ⟨⟨Keep.refl _ _, fun k o' hk => ?_, fun i j oi oj hi hj hij b k hb hb' => ?_, fun k o' hk b l hb => ?_, fun b k hf => ?_, fun b k hg => hg.elim, fun b k v he => by cases he⟩, hr⟩
  · obtain ⟨hlt, fr, o, h1, h2, h3, h4⟩ := hget k o' hk
    refine ⟨hlt, ?_⟩
    rw [h4]
    exact convOb_ok s h2 (hs _ (List.getElem_mem hlt) _ h1) (s.own _ _ h1).2
  · obtain ⟨hk1, fr, o, h1, _, _, h4⟩ := hget i oi hi
    obtain ⟨hk2, fr2, o2, h12, _, _, h42⟩ := hget j oj hj
    rw [h4] at hb
    rw [h42] at hb'
    refine s.dis _ _ _ _ h1 h12 (fun e => hij ?_) b k hb hb'
    exact nodup_inj hnd hk1 hk2 e
  · obtain ⟨hlt, fr, o, h1, h2, h3, h4⟩ := hget k o' hk
    have hin : inR (c.loc (ids[k])) b l := by rw [← h4]; exact hb
    obtain ⟨q1, q2, _⟩ := s.sep _ _ h1 b l hin
    refine ⟨fun hf => ?_, fun hg => hg, .inl ⟨h3, k, o', hk, hb⟩⟩
    rcases hf with hf | hf | ⟨id, hid, hf⟩
    · exact q1 hf
    · exact q2 hf
    · obtain ⟨z1, z2⟩ := hsn id hid
      cases hq : H id with
      | none => exact z2 hq
      | some q => exact s.dis _ _ _ _ h1 hq (fun e => z1 (e ▸ List.getElem_mem hlt)) b l hin hf
  · have hnr : ¬ rng (calleeCtx c ids snaps).loc (hp H0) b k := by
      intro hx
      obtain ⟨id, o, hid, ho, hin⟩ := hr b k hx
      obtain ⟨q1, q2, _⟩ := s.sep _ _ ho b k hin
      rcases hf with hf | hf | ⟨i, hi, hf⟩
      · exact q1 hf
      · exact q2 hf
      · obtain ⟨z1, z2⟩ := hsn i hi
        cases hq : H i with
        | none => exact z2 hq
        | some q => exact s.dis _ _ _ _ ho hq (fun e => z1 (e ▸ hid)) b k hin hf
    refine ⟨?_, hnr⟩
    rcases hf with hf | hf | ⟨i, hi, hf⟩
    · exact Nat.lt_of_lt_of_le (s.old b k hf).1 s.keep.size
    · exact (s.new b k hf).2
    · obtain ⟨z1, z2⟩ := hsn i hi
      cases hq : H i with
      | none => exact absurd hq z2
      | some q => exact s.lt hq hf

/-! ### Back -/

theorem back_rep {w' : World} {c c1 c' : Ctx} {ids snaps : List Nat} (hF : c'.F = c.F) (hG : ∀ b k, c.G b k ∨ c1.G b k → c'.G b k) (hle : (calleeCtx c ids snaps).Le c1) {t : Bool} (hfr : snaps = [] ∨ t = false) {l : Leaf} {v : Value}
    (h : RepL w' (c1.fs t) v l) : RepL w' (c'.fs t) v l := by
  refine h.sub fun b k x => ?_
  rcases x with x | ⟨rfl, x⟩
  · exact .inl (hG b k (.inr x))
  · rw [hle.F] at x
    rcases x with x | x | ⟨id, hid, x⟩
    · exact .inr ⟨rfl, by rw [hF]; exact x⟩
    · exact .inl (hG b k (.inl x))
    · rcases hfr with rfl | h
      · cases hid
      · cases h

theorem back1_ok {w' : World} {c c1 c' : Ctx} {ids snaps : List Nat} (hF : c'.F = c.F) (hG : ∀ b k, c.G b k ∨ c1.G b k → c'.G b k) (hle : (calleeCtx c ids snaps).Le c1)
    (hl1 : ∀ k (hk : k < ids.length), c'.loc (ids[k]) = c1.loc k ∧ ids[k] < c'.nx) (hl2 : ∀ k, ids.length ≤ k → k < c1.nx → c'.loc (c.nx + (k - ids.length)) = c1.loc k ∧ c.nx + (k - ids.length) < c'.nx)
    {lv : LV} {v : Value} (hfr : snaps = [] ∨ free1 lv = true) (h : Cv w' c1 lv v) : Cv w' c' (back1 ids c.nx lv) v := by
  cases h with
  | un v => exact .un _
  | lf h =>
    rename_i t l
    cases l with
    | sc u => cases h with
      | sc hu => exact .lf (.sc hu)
    | sl rows =>
      refine .lf (back_rep hF hG hle (hfr.imp id fun h => ?_) h)
      cases t
      · rfl
      · cases h
  | nl a => exact .nl a
  | os hid hl hm hx ha hn =>
    rename_i k es lo len mc cap ex a
    rcases Nat.lt_or_ge k ids.length with hk | hk
    · obtain ⟨e1, e2⟩ := hl1 k hk
      simp only [back1, List.getElem?_eq_getElem hk]
      exact .os e2 hl hm hx (by rw [e1]; exact ha) (by rw [e1]; exact hn)
    · obtain ⟨e1, e2⟩ := hl2 k hk hid
      simp only [back1, List.getElem?_eq_none hk]
      exact .os e2 hl hm hx (by rw [e1]; exact ha) (by rw [e1]; exact hn)
  | pb hid =>
    rename_i k off
    rcases Nat.lt_or_ge k ids.length with hk | hk
    · obtain ⟨e1, e2⟩ := hl1 k hk
      simp only [back1, List.getElem?_eq_getElem hk]
      rw [← e1]
      exact .pb e2
    · obtain ⟨e1, e2⟩ := hl2 k hk hid
      simp only [back1, List.getElem?_eq_none hk]
      rw [← e1]
      exact .pb e2
  | pe => exact .un _
  | ra cs hS hr =>
    rename_i t ls b o
    have ht : snaps = [] ∨ t = false := hfr.imp id fun h => by
      cases t
      · rfl
      · cases h
    have hsub : ∀ b k, c1.fs t b k → c'.fs t b k := by
      intro b k x
      rcases x with x | ⟨rfl, x⟩
      · exact .inl (hG b k (.inr x))
      · rw [hle.F] at x
        rcases x with x | x | ⟨id, hid, x⟩
        · exact .inr ⟨rfl, by rw [hF]; exact x⟩
        · exact .inl (hG b k (.inl x))
        · rcases ht with rfl | h
          · cases hid
          · cases h
    exact .ra cs (fun j hj => ⟨hsub _ _ (hS j hj).1, (hS j hj).2⟩) fun j hj => (hr j hj).sub hsub
  | ag => exact .un _
  | tu => exact .un _
  | fn cs hn hv h3 =>
    rename_i f ls vs
    cases ls with
    | nil => exact .fn cs hn (fun j hj => by simp at hj) fun j hj => by simp at hj
    | cons => exact .un _

end Go.TL

import Derived.Test.YtjhcfmcdllfmpaaTlWeak
set_option linter.unusedSimpArgs false
set_option linter.unusedVariables false
namespace Go.TL
open Go

def LoopI {α : Type} (S : α → St) (pre : α → Prop) (meas : α → Nat) : Nat → St → Prop := fun n s => ∃ a, pre a ∧ meas a = n ∧ s = S a

theorem W_loopG {E : Env} {x : Code} {s : St} {st : List Fm} {α : Type} (Z : α → St) (pre : α → Prop) (meas : α → Nat) (a0 : α) (hw : Weak E.m s (Z a0)) (h0 : pre a0)
    (h : ∀ a, pre a → W E x (Z a) (.loop (LoopI Z pre meas) (meas a) :: st)) : W E (.loop x) s st := by
  rw [S.W_loop]
  refine ⟨LoopI Z pre meas, meas a0, ⟨Z a0, hw, a0, h0, rfl, rfl⟩, fun n s hI => ?_⟩
  obtain ⟨a, ha, rfl, rfl⟩ := hI
  exact h a ha

theorem X_back {E : Env} {s : St} {st : List Fm} {α : Type} {Z : α → St} {pre : α → Prop} {meas : α → Nat} {n : Nat} (a' : α) (hw : Weak E.m s (Z a')) (hp : pre a') (hm : meas a' < n) : X E .normal s (.loop (LoopI Z pre meas) n :: st) := by
  rw [S.X_loop_n]
  exact ⟨_, hm, _, hw, a', hp, rfl, rfl⟩

def wkHb (ρ : Ren) : Option (Bool × Ob) → Bool × Ob → Prop
  | some (fr, o), o2 => (o2.1 = fr ∨ o2.1 = false) ∧ wkOb ρ o o2.2
  | none, _ => False
def wkHa (ρ : Ren) (H : Heap) : Option (Option Nat) → Bool × Ob → Prop
  | some (some id), o2 => wkHb ρ (H id) o2
  | some none, o2 => (match o2.2 with | .arr _ _ rows => rows = [] | _ => False)
  | none, _ => False

def appD (ee : TE) (rm : Nat) (es lo len : Nat) (tx : Bool) (rows : List (List Leaf)) (id : Nat) (o : Option (Bool × Ob)) (s : St) : Option Res := match o with
  | some (fr, .arr t1 es' old) => if ee.size = es ∧ es' = es then
      some ⟨lo + len ≤ old.length ∧ (∀ r ∈ rows, r.length = es) ∧ (len + rows.length) * ee.bytes ≤ 140737488355328, .os s.nx es 0 (len + rows.length) rm false,
        (s.nx, some (fr, .arr (t1 || tx) es ((old.drop lo).take len ++ rows))) :: (id, none) :: s.H, s.nx + 1⟩ else none
  | _ => none
def appC (ee : TE) (x y : LV) (tx : Bool) (rows : List (List Leaf)) (s : St) : Option Res := match x with
  | .nl => some ⟨(∀ r ∈ rows, r.length = ee.size) ∧ rows.length * ee.bytes ≤ 140737488355328, .os s.nx ee.size 0 rows.length rows.length false, (s.nx, some (true, .arr tx ee.size rows)) :: s.H, s.nx + 1⟩
  | .os id es lo len _ _ => appD ee (roomA x y (len + rows.length)) es lo len tx rows id (hp s.H id) s
  | _ => none
def appB (ee : Option TE) (x y : LV) (src : Option (Bool × List (List Leaf))) (s : St) : Option Res := match ee, src with
  | some ee, some (tx, rows) => if 0 < ee.bytes ∧ ee.zero.length = ee.size then appC ee x y tx rows s else none
  | _, _ => none
def appA (tab : Tab) (a b : Option TE) (x y : LV) (src : Option (Bool × List (List Leaf))) (s : St) : Option Res := match a, b with
  | some e, some e2 => match e.sh, e2.sh with
    | .slice el, .slice _ => appB (look tab el) x y src s
    | _, _ => none
  | _, _ => none
def srcA (es lo len : Nat) (o : Option (Bool × Ob)) : Option (Bool × List (List Leaf)) := match o with
  | some (_, .arr t es' rows) => if es' = es ∧ lo + len ≤ rows.length then some (t, (rows.drop lo).take len) else none
  | _ => none

def clrC (ee : TE) (es lo : Nat) (o : Option (Bool × Ob)) (q : Option (Bool × List Leaf)) (s : St) : Option Res := match o, q with
  | some (_, .arr _ es' old), some (false, _) => if ee.zero.length = ee.size ∧ ee.size = es ∧ es' = es then some ⟨old.length ≤ lo, .un, s.H, s.nx⟩ else none
  | _, _ => none
def clrB (ee : Option TE) (x : LV) (s : St) : Option Res := match ee, x with
  | some ee, .os id es lo _ _ _ => clrC ee es lo (hp s.H id) (leaves? (ee.zero.map cellLV)) s
  | _, _ => none
def clrA (tab : Tab) (a : Option TE) (x : LV) (s : St) : Option Res := match a with
  | some e => match e.sh with
    | .slice el => clrB (look tab el) x s
    | _ => none
  | none => none
def mcOk (mc mc' len : Nat) (ex ex' : Bool) : Prop := (mc' = mc ∧ ex' = ex) ∨ (mc' ≤ max len mc ∧ ex' = false)
def tOk (t t' : Bool) (r : List (List Leaf)) : Prop := (t = true → t' = true) ∨ flatR r

namespace S
theorem app_ (tab : Tab) (s : St) (x y : Operand) (t u : Nat) : appendE tab s [x, y] [t, u] = appA tab (look tab t) (look tab u) (ev s.T x) (ev s.T y) (srcRows (hp s.H) (ev s.T y)) s := by
  unfold appendE appA
  simp only
  cases look tab t with
  | none => rfl
  | some e =>
    cases look tab u with
    | none => rfl
    | some e2 =>
      simp only
      cases e.sh <;> cases e2.sh <;> (try rfl)
theorem appA_ (tab : Tab) (a b a' b' el el' : Nat) (z z' : List Value) (x y : LV) (src : Option (Bool × List (List Leaf))) (s : St) : appA tab (some ⟨a, b, z, .slice el⟩) (some ⟨a', b', z', .slice el'⟩) x y src s = appB (look tab el) x y src s := rfl
theorem appB_ (a b : Nat) (z : List Value) (sh : Sh) (x y : LV) (tx : Bool) (rows : List (List Leaf)) (s : St) : appB (some ⟨a, b, z, sh⟩) x y (some (tx, rows)) s = if 0 < b ∧ z.length = a then appC ⟨a, b, z, sh⟩ x y tx rows s else none := rfl
theorem appC_nl (a b : Nat) (z : List Value) (sh : Sh) (y : LV) (tx : Bool) (rows : List (List Leaf)) (T : List (Nat × LV)) (H : HL) (nx nt : Nat) : appC ⟨a, b, z, sh⟩ .nl y tx rows ⟨T, H, nx, nt⟩ = some ⟨(∀ r ∈ rows, r.length = a) ∧ rows.length * b ≤ 140737488355328, .os nx a 0 rows.length rows.length false, (nx, some (true, .arr tx a rows)) :: H, nx + 1⟩ := rfl
theorem appC_os (a b : Nat) (z : List Value) (sh : Sh) (id es lo len mc : Nat) (y : LV) (ex tx : Bool) (rows : List (List Leaf)) (T : List (Nat × LV)) (H : HL) (nx nt : Nat) : appC ⟨a, b, z, sh⟩ (.os id es lo len mc ex) y tx rows ⟨T, H, nx, nt⟩ = appD ⟨a, b, z, sh⟩ (roomA (.os id es lo len mc ex) y (len + rows.length)) es lo len tx rows id (hp H id) ⟨T, H, nx, nt⟩ := rfl
theorem appD_ (a b rm : Nat) (z : List Value) (sh : Sh) (es lo len : Nat) (tx : Bool) (rows : List (List Leaf)) (id : Nat) (fr t1 : Bool) (es' : Nat) (old : List (List Leaf)) (T : List (Nat × LV)) (H : HL) (nx nt : Nat) : appD ⟨a, b, z, sh⟩ rm es lo len tx rows id (some (fr, .arr t1 es' old)) ⟨T, H, nx, nt⟩ = if a = es ∧ es' = es then
      some ⟨lo + len ≤ old.length ∧ (∀ r ∈ rows, r.length = es) ∧ (len + rows.length) * b ≤ 140737488355328, .os nx es 0 (len + rows.length) rm false,
        (nx, some (fr, .arr (t1 || tx) es ((old.drop lo).take len ++ rows))) :: (id, none) :: H, nx + 1⟩ else none := rfl
theorem clr_ (tab : Tab) (s : St) (x : Operand) (t : Nat) : clearE tab s [x] [t] = clrA tab (look tab t) (ev s.T x) s := rfl
theorem clrA_ (tab : Tab) (a b el : Nat) (z : List Value) (x : LV) (s : St) : clrA tab (some ⟨a, b, z, .slice el⟩) x s = clrB (look tab el) x s := rfl
theorem clrB_ (a b : Nat) (z : List Value) (sh : Sh) (id es lo len mc : Nat) (ex : Bool) (s : St) : clrB (some ⟨a, b, z, sh⟩) (.os id es lo len mc ex) s = clrC ⟨a, b, z, sh⟩ es lo (hp s.H id) (leaves? (z.map cellLV)) s := rfl
theorem clrC_ (a b : Nat) (z : List Value) (sh : Sh) (es lo : Nat) (fr t : Bool) (es' : Nat) (old : List (List Leaf)) (zl : List Leaf) (s : St) : clrC ⟨a, b, z, sh⟩ es lo (some (fr, .arr t es' old)) (some (false, zl)) s = if z.length = a ∧ a = es ∧ es' = es then some ⟨old.length ≤ lo, .un, s.H, s.nx⟩ else none := rfl
theorem rm_lf (id es lo len mc : Nat) (ex t : Bool) (l : Leaf) (n : Nat) : roomA (.os id es lo len mc ex) (.lf t l) n = n := rfl
theorem rm_nl (id es lo len mc : Nat) (ex : Bool) (n : Nat) : roomA (.os id es lo len mc ex) .nl n = n := rfl
theorem rm_os (id es lo len mc id' es' lo' len' mc' : Nat) (ex ex' : Bool) (n : Nat) : roomA (.os id es lo len mc ex) (.os id' es' lo' len' mc' ex') n = if id = id' then max n mc else n := rfl
theorem src_lf (H : Heap) (t : Bool) (rows : List (List Leaf)) : srcRows H (.lf t (.sl rows)) = some (t, rows) := rfl
theorem src_nl (H : Heap) : srcRows H .nl = some (false, []) := rfl
theorem src_os (H : Heap) (id es lo len mc : Nat) (ex : Bool) : srcRows H (.os id es lo len mc ex) = srcA es lo len (H id) := rfl
theorem srcA_ (es lo len : Nat) (fr t : Bool) (es' : Nat) (rows : List (List Leaf)) : srcA es lo len (some (fr, .arr t es' rows)) = if es' = es ∧ lo + len ≤ rows.length then some (t, (rows.drop lo).take len) else none := rfl
theorem sc_tu (l : List LV) : sc? (.tu l) = none := rfl
theorem wkT_nil (ρ : Ren) (T : List (Nat × LV)) : wkT ρ T [] = True := rfl
theorem wkT_cons (ρ : Ren) (T : List (Nat × LV)) (t : Nat) (lv : LV) (r : List (Nat × LV)) : wkT ρ T ((t, lv) :: r) = (wk ρ (tv T t) lv ∧ wkT ρ T r) := rfl
theorem wkHs_nil (ρ : Ren) (H : Heap) : wkHs ρ H [] = True := rfl
theorem wkHs_some (ρ : Ren) (H : Heap) (i : Nat) (o : Bool × Ob) (r : HL) : wkHs ρ H ((i, some o) :: r) = (wkHa ρ H (ρ[i]?) o ∧ wkHs ρ H r) := by
  have : wkH ρ H i o = wkHa ρ H (ρ[i]?) o := by
    unfold wkH
    rcases ρ[i]? with _ | _ | id
    · rfl
    · obtain ⟨fr, o⟩ := o
      cases o with
      | box ls => exact propext ⟨fun ⟨t, es, h⟩ => (by cases h), fun h => h.elim⟩
      | arr t es rows => exact propext ⟨fun ⟨t', es', h⟩ => (by cases h; rfl), fun h => ⟨t, es, (by rw [show rows = [] from h])⟩⟩
    · simp only [wkHa]
      rcases H id with _ | ⟨fr, o'⟩
      · exact propext ⟨fun ⟨fr, o, h, _⟩ => (by cases h), fun h => h.elim⟩
      · refine propext ⟨fun ⟨fr2, o2, h, h1, h2⟩ => ?_, fun h => ⟨_, _, rfl, h⟩⟩
        cases h
        exact ⟨h1, h2⟩
  rw [← this]
  rfl
theorem wkHs_none (ρ : Ren) (H : Heap) (i : Nat) (r : HL) : wkHs ρ H ((i, none) :: r) = wkHs ρ H r := rfl
theorem wkHa_some (ρ : Ren) (H : Heap) (id : Nat) (o : Bool × Ob) : wkHa ρ H (some (some id)) o = wkHb ρ (H id) o := rfl
theorem wkHa_none (ρ : Ren) (H : Heap) (fr t : Bool) (es : Nat) (rows : List (List Leaf)) : wkHa ρ H (some none) (fr, .arr t es rows) = (rows = []) := rfl
theorem wkHb_some (ρ : Ren) (fr fr2 : Bool) (o o2 : Ob) : wkHb ρ (some (fr, o)) (fr2, o2) = ((fr2 = fr ∨ fr2 = false) ∧ wkOb ρ o o2) := rfl
theorem wkOb_box (ρ : Ren) (l l' : List LV) : wkOb ρ (.box l) (.box l') = wks ρ l l' := rfl
theorem wkOb_arr (ρ : Ren) (t t' : Bool) (es es' : Nat) (r r' : List (List Leaf)) : wkOb ρ (.arr t es r) (.arr t' es' r') = (tOk t t' r ∧ es' = es ∧ r' = r) := rfl
theorem mcOk_eq (n len : Nat) (ex : Bool) : mcOk n n len ex false = True := eq_true (.inr ⟨Nat.le_max_right _ _, rfl⟩)
theorem mcOk_len (mc n : Nat) (ex : Bool) : mcOk mc n n ex false = True := eq_true (.inr ⟨Nat.le_max_left _ _, rfl⟩)
theorem mcOk_same (n len : Nat) (ex : Bool) : mcOk n n len ex ex = True := eq_true (.inl ⟨rfl, rfl⟩)
theorem mcOk_f (mc mc' len : Nat) (ex : Bool) : mcOk mc mc' len ex false = (mc' ≤ max len mc) := propext ⟨fun h => h.elim (fun h => by omega) (·.1), fun h => .inr ⟨h, rfl⟩⟩
theorem tOk_f (t' : Bool) (r : List (List Leaf)) : tOk false t' r = True := eq_true (.inl fun h => by cases h)
theorem tOk_t (t : Bool) (r : List (List Leaf)) : tOk t true r = True := eq_true (.inl fun _ => rfl)
theorem tOk_b (t : Bool) (r : List (List Leaf)) : tOk t t r = True := eq_true (.inl id)
theorem tOk_tf (r : List (List Leaf)) : tOk true false r = flatR r := propext ⟨fun h => h.elim (fun h => by cases h rfl) id, .inr⟩
theorem flat_nil : flatR [] = True := eq_true fun r hr => by simp at hr
theorem wks_nil (ρ : Ren) : wks ρ [] [] = True := rfl
theorem wks_cons (ρ : Ren) (a b : LV) (r q : List LV) : wks ρ (a :: r) (b :: q) = (wk1 ρ a b ∧ wks ρ r q) := rfl
theorem w1_un (ρ : Ren) (a : LV) : wk1 ρ a .un = True := rfl
theorem w1_lf (ρ : Ren) (t t' : Bool) (l l' : Leaf) : wk1 ρ (.lf t l) (.lf t' l') = ((t = true → t' = true) ∧ l = l') := rfl
theorem w1_nf (ρ : Ren) (t' : Bool) (l' : Leaf) : wk1 ρ .nl (.lf t' l') = (l' = .sl []) := rfl
theorem w1_nl (ρ : Ren) : wk1 ρ .nl .nl = True := eq_true rfl
theorem w1_os (ρ : Ren) (id id' es es' lo lo' len len' mc mc' : Nat) (ex ex' : Bool) : wk1 ρ (.os id es lo len mc ex) (.os id' es' lo' len' mc' ex') = (ρ[id']? = some (some id) ∧ es' = es ∧ lo' = lo ∧ len' = len ∧ mcOk mc mc' len ex ex') := rfl
theorem w1_no (ρ : Ren) (id' es' lo' len' mc' : Nat) (ex' : Bool) : wk1 ρ .nl (.os id' es' lo' len' mc' ex') = (id' < ρ.length ∧ lo' = 0 ∧ len' = 0 ∧ mc' = 0) := rfl
theorem w1_pb (ρ : Ren) (id off id' off' : Nat) : wk1 ρ (.pb id off) (.pb id' off') = (ρ[id']? = some (some id) ∧ off' = off) := rfl
theorem w1_pe (ρ : Ren) (id es i off id' es' i' off' : Nat) : wk1 ρ (.pe id es i off) (.pe id' es' i' off') = (ρ[id']? = some (some id) ∧ es' = es ∧ i' = i ∧ off' = off) := rfl
theorem w1_ra (ρ : Ren) (t t' : Bool) (l l' : List Leaf) : wk1 ρ (.ra t l) (.ra t' l') = ((t = true → t' = true) ∧ l = l') := rfl
theorem wk_un (ρ : Ren) (a : LV) : wk ρ a .un = True := rfl
theorem wk_lf (ρ : Ren) (t t' : Bool) (l l' : Leaf) : wk ρ (.lf t l) (.lf t' l') = ((t = true → t' = true) ∧ l = l') := rfl
theorem wk_nf (ρ : Ren) (t' : Bool) (l' : Leaf) : wk ρ .nl (.lf t' l') = (l' = .sl []) := rfl
theorem wk_nl (ρ : Ren) : wk ρ .nl .nl = True := eq_true rfl
theorem wk_os (ρ : Ren) (id id' es es' lo lo' len len' mc mc' : Nat) (ex ex' : Bool) : wk ρ (.os id es lo len mc ex) (.os id' es' lo' len' mc' ex') = (ρ[id']? = some (some id) ∧ es' = es ∧ lo' = lo ∧ len' = len ∧ mcOk mc mc' len ex ex') := rfl
theorem wk_no (ρ : Ren) (id' es' lo' len' mc' : Nat) (ex' : Bool) : wk ρ .nl (.os id' es' lo' len' mc' ex') = (id' < ρ.length ∧ lo' = 0 ∧ len' = 0 ∧ mc' = 0) := rfl
theorem wk_pb (ρ : Ren) (id off id' off' : Nat) : wk ρ (.pb id off) (.pb id' off') = (ρ[id']? = some (some id) ∧ off' = off) := rfl
theorem wk_pe (ρ : Ren) (id es i off id' es' i' off' : Nat) : wk ρ (.pe id es i off) (.pe id' es' i' off') = (ρ[id']? = some (some id) ∧ es' = es ∧ i' = i ∧ off' = off) := rfl
theorem wk_ra (ρ : Ren) (t t' : Bool) (l l' : List Leaf) : wk ρ (.ra t l) (.ra t' l') = ((t = true → t' = true) ∧ l = l') := rfl
theorem wk_ag (ρ : Ren) (l l' : List LV) : wk ρ (.ag l) (.ag l') = wks ρ l l' := rfl
theorem wk_fn (ρ : Ren) (f f' : FuncId) (l l' : List LV) : wk ρ (.fn f l) (.fn f' l') = (f = f' ∧ wks ρ l l') := rfl
end S
theorem imp_tt (b : Bool) : (b = true → true = true) = True := eq_true fun _ => rfl
theorem imp_ft (b : Bool) : (false = true → b = true) = True := eq_true fun h => by cases h
theorem imp_bb (b : Bool) : (b = true → b = true) = True := eq_true id
attribute [irreducible] LoopI
end Go.TL

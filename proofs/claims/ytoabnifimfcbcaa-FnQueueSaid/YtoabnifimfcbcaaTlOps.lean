/- What the operations do: one law each. -/
import Derived.Test.YtoabnifimfcbcaaTlMach
import Derived.Laws.Sem
set_option linter.unusedSimpArgs false
set_option linter.unusedVariables false
namespace Go.TL
open Go

structure Rel (w0 : World) (W0 : Fr) (c : Ctx) (s : St) (a : Act) (w : World) : Prop where
  sit : Sit w0 W0 c (hp s.H) w
  nx : c.nx = s.nx
  tmp : ∀ i, Cv w c (tv s.T i) (a.tmps.getD i undef)
  sz : a.tmps.size = s.nt
  df : a.defers = []

theorem cell_ok (w : World) (c : Ctx) (v : Value) : Cv w c (cellLV v) v := by
  unfold cellLV
  split
  · exact .lf (.sc rfl)
  · exact .lf (.sc rfl)
  · exact .lf (.sc rfl)
  · exact .nl _
  · exact .un _

theorem const_ok (w : World) (c : Ctx) (v : Value) : Cv w c (constLV v) v := by
  unfold constLV
  split
  · rename_i vs
    refine .ag (fun j => vs.getD j undef) (by simp) (fun j hj => ?_) fun j hj => ?_
    · have : j < vs.size := by simpa using hj
      simp [this]
    · have : j < vs.size := by simpa using hj
      simp only [List.getElem_map, Array.getElem_toList]
      rw [show vs.getD j undef = vs[j] by simp [this]]
      exact cell_ok _ _ _
  · exact cell_ok _ _ _

theorem ev_ok {w0 w : World} {W0 : Fr} {c : Ctx} {s : St} {a : Act} (r : Rel w0 W0 c s a w) (x : Operand) : Cv w c (ev s.T x) (a.eval x) := by
  cases x with
  | tmp t => exact r.tmp t
  | const v => exact const_ok w c v
  | global g => exact .un _
  | func f => exact .fn (fun _ => undef) rfl (fun j hj => by simp at hj) (fun j hj => by simp at hj)

/-- What an operation's result tells. -/
def Outs (n : Next) (v : Value) : Prop := n = .value v ∨ (n = .skip ∧ v = undef)

def Does (P : Program) (op : Op) (s : St) (r : Res) : Prop :=
  ∀ (w0 : World) (W0 : Fr) (c : Ctx) (a : Act) (w : World), Rel w0 W0 c s a w → r.pre → ∃ n w' c' v,
    (∀ o : Oper, o.op = op → (execOp a.eval o).run P w = .ok n w') ∧ Outs n v ∧ c.Le c' ∧ c'.nx = r.nx ∧ Sit w0 W0 c' (hp r.H) w' ∧ Same c w w' ∧ Cv w' c' r.v v

/-- An operation that leaves the world alone. -/
theorem Does.quiet {P : Program} {op : Op} {s : St} {r : Res} (hH : r.H = s.H) (hn : r.nx = s.nx)
    (h : ∀ (w0 : World) (W0 : Fr) (c : Ctx) (a : Act) (w : World), Rel w0 W0 c s a w → r.pre → ∃ v, (∀ o : Oper, o.op = op → (execOp a.eval o).run P w = .ok (.value v) w) ∧ Cv w c r.v v) : Does P op s r := by
  intro w0 W0 c a w hr hp
  obtain ⟨v, h1, h2⟩ := h w0 W0 c a w hr hp
  exact ⟨_, w, c, v, h1, .inl rfl, .refl c, by rw [hn, hr.nx], by rw [hH]; exact hr.sit, .refl c w, h2⟩

section
variable {P : Program} {s : St}

theorem does_move (x : Operand) : Does P (.move x) s ⟨True, ev s.T x, s.H, s.nx⟩ :=
  .quiet rfl rfl fun w0 W0 c a w hr _ => ⟨a.eval x, fun o ho => by unfold execOp; rw [ho]; rfl, ev_ok hr x⟩

theorem does_assign (x : Operand) : Does P (.assign x) s ⟨True, ev s.T x, s.H, s.nx⟩ :=
  .quiet rfl rfl fun w0 W0 c a w hr _ => ⟨a.eval x, fun o ho => by unfold execOp; rw [ho]; rfl, ev_ok hr x⟩

/-- A known scalar. -/
theorem Cv.scalar {w : World} {c : Ctx} {t : Bool} {v x : Value} (h : Cv w c (.lf t (.sc v)) x) : x = v ∧ scal v = true := by
  cases h with
  | lf h => cases h with
    | sc h => exact ⟨rfl, h⟩

def sc? : LV → Option Value
  | .lf _ (.sc v) => some v
  | _ => none

theorem sc_of {w : World} {c : Ctx} {lv : LV} {v x : Value} (h : sc? lv = some v) (hc : Cv w c lv x) : x = v ∧ scal v = true := by
  unfold sc? at h
  split at h
  · cases h; exact hc.scalar
  · cases h

def evPick (A B C : LV) : Option LV :=
  match sc? C with
  | some (.bool b) => match sc? A, sc? B with
    | some (.bool x), some (.bool y) => some (.lf false (.sc (.bool (bif b then x else y))))
    | _, _ => some (bif b then A else B)
  | _ => none

theorem does_pick {x y z : Operand} {lv : LV} (h : evPick (ev s.T y) (ev s.T z) (ev s.T x) = some lv) : Does P (.pick x y z) s ⟨True, lv, s.H, s.nx⟩ := by
  refine .quiet rfl rfl fun w0 W0 c a w hr _ => ?_
  unfold evPick at h
  split at h
  · rename_i b hb
    have hx := (sc_of hb (ev_ok hr x)).1
    have hrun : ∀ o : Oper, o.op = .pick x y z → (execOp a.eval o).run P w = .ok (.value (if b then a.eval y else a.eval z)) w := fun o ho => by
      unfold execOp; rw [ho]; simp [hx, asBool]
    refine ⟨_, hrun, ?_⟩
    have hy := ev_ok hr y
    have hz := ev_ok hr z
    split at h
    · rename_i p q hp hq
      cases h
      rw [(sc_of hp hy).1, (sc_of hq hz).1]
      cases b <;> exact .lf (.sc rfl)
    · cases h
      cases b
      · exact hz
      · exact hy
  · cases h

theorem bin_scal {op : BinOp} {x y v : Value} (h : bin op x y = some v) : scal v = true := by
  unfold bin at h
  split at h <;> (try split at h) <;> (try split at h) <;> cases h <;> rfl

theorem guard_run {op : BinOp} {x y : Value} (hx : scal x = true) (t : TypeId) (u v : Operand) (w : World) : (eqGuard op t u v x y).run P w = .ok () w := by
  cases x <;> simp [scal] at hx <;> cases op <;> simp [eqGuard]

theorem does_bin {op : BinOp} {t t' : TypeId} {x y : Operand} {p q v : Value} (hp : sc? (ev s.T x) = some p) (hq : sc? (ev s.T y) = some q) (hb : bin op p q = some v) : Does P (.binOp op t x y t') s ⟨binP op p q, .lf false (.sc v), s.H, s.nx⟩ := by
  refine .quiet rfl rfl fun w0 W0 c a w hr hpre => ?_
  obtain ⟨ex, sx⟩ := sc_of hp (ev_ok hr x)
  obtain ⟨ey, sy⟩ := sc_of hq (ev_ok hr y)
  refine ⟨v, fun o ho => ?_, .lf (.sc (bin_scal hb))⟩
  unfold execOp
  rw [ho]
  simp only [ex, ey]
  have := guard_run (P := P) (op := op) (y := q) sx t x y w
  have h2 := bin_run (P := P) hb hpre t w
  simp [this, h2]

def un1 : UnOp → Value → Option Value
  | .not, .bool b => some (.bool !b)
  | .neg, .int k n => some (.int k (k.wrap (0 - n)))
  | _, _ => none

def evUn (op : UnOp) (A : LV) : Option LV :=
  match sc? A with
  | some x => (un1 op x).map fun v => .lf false (.sc v)
  | _ => none

theorem does_un {op : UnOp} {t : TypeId} {x : Operand} {lv : LV} (h : evUn op (ev s.T x) = some lv) : Does P (.unOp op t x) s ⟨True, lv, s.H, s.nx⟩ := by
  refine .quiet rfl rfl fun w0 W0 c a w hr _ => ?_
  unfold evUn at h
  split at h
  · rename_i p hp
    obtain ⟨ex, sx⟩ := sc_of hp (ev_ok hr x)
    unfold un1 at h
    split at h
    · cases h
      exact ⟨_, fun o ho => by unfold execOp; rw [ho]; simp only [ex, Op.unary]; rfl, .lf (.sc rfl)⟩
    · cases h
      exact ⟨_, fun o ho => by unfold execOp; rw [ho]; simp only [ex, Op.unary, Op.intArith]; rfl, .lf (.sc rfl)⟩
    · cases h
  · cases h

theorem does_extract {x : Operand} {j : Nat} {ls : List LV} (h : ev s.T x = .tu ls) (hj : j < ls.length) : Does P (.extract x j) s ⟨True, ls.getD j .un, s.H, s.nx⟩ := by
  refine .quiet rfl rfl fun w0 W0 c a w hr _ => ?_
  have hx := ev_ok hr x
  rw [h] at hx
  generalize hv : a.eval x = v at hx
  cases hx with
  | tu cs hn hv' hc =>
    refine ⟨cs j, fun o ho => ?_, ?_⟩
    · unfold execOp; rw [ho]; simp [hv, Instr.extract, hv' j hj]
    · rw [show ls.getD j .un = ls[j] by simp [hj]]; exact hc j hj
end
end Go.TL

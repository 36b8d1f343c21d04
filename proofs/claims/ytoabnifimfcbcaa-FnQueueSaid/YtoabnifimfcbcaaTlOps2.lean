/- Further operations: strings, lengths, cuts, fields, values built, function values, conversions. -/
import Derived.Test.YtoabnifimfcbcaaTlElem
import Derived.Test.YtoabnifimfcbcaaTlPure
import Derived.Laws.Slices
import Derived.Laws.StructEq
set_option linter.unusedSimpArgs false
set_option linter.unusedVariables false
namespace Go.TL
open Go

section
variable {P : Program} {s : St}

theorem OkT.str {t : Nat} {e : TE} (h : OkT P t e) (hs : e.sh = .str) : P.underlying t = some .string := by
  obtain ⟨d, hd, hsh⟩ := h.und
  rw [hs] at hsh
  cases d <;> simp [shapeOf] at hsh
  exact hd

/-- A byte of a string. -/

theorem does_index {t : Nat} {e : TE} {x y : Operand} {b : ByteArray} {k : IntKind} {n : Int} (h : OkT P t e) (hs : e.sh = .str) (hx : sc? (ev s.T x) = some (.string b)) (hy : sc? (ev s.T y) = some (.int k n)) :
    Does P (.index t x y) s ⟨0 ≤ n ∧ n < b.size, .lf false (.sc (.int .u8 (bt b n))), s.H, s.nx⟩ := by
  refine .quiet rfl rfl fun w0 W0 c a w hr ⟨h0, h1⟩ => ?_
  have hx' := (sc_of hx (ev_ok hr x)).1
  have hy' := (sc_of hy (ev_ok hr y)).1
  refine ⟨_, fun o ho => ?_, .lf (.sc rfl)⟩
  unfold execOp
  rw [ho]
  have hlt : n.toNat < b.size := by omega
  simp [hx', hy', Instr.index, asIntOf, run_und (h.str hs), h0, hlt, bt]

def lenLV : LV → Option Int
  | .lf _ (.sc (.string b)) => some (b.size : Int)
  | .lf _ (.sl rows) => some (rows.length : Int)
  | .nl => some 0
  | .os _ _ _ len _ _ => some (len : Int)
  | _ => none

theorem does_len {t : Nat} {e : TE} {c : Call} {x : Operand} {n : Int} (h : OkT P t e) (hs : e.sh = .str ∨ ∃ el, e.sh = .slice el) (hc : c.callee = .builtin .len) (ha : c.args = #[x]) (ht : c.argTypes = #[t]) (hx : lenLV (ev s.T x) = some n) :
    Does P (.call c) s ⟨(e.sh = .str ↔ ∃ b, sc? (ev s.T x) = some (.string b)), .lf false (.sc (.int .i64 n)), s.H, s.nx⟩ := by
  refine .quiet rfl rfl fun w0 W0 cc a w hr hpre => ?_
  have hx' := ev_ok hr x
  refine ⟨.int .i64 n, fun o ho => ?_, .lf (.sc rfl)⟩
  unfold execOp
  rw [ho]
  simp only [resolve, hc, ha, ht, Sem.run_bind, Sem.run_pure, Result.andThen_ok, invoke, builtin, List.map_toArray, List.map_cons, List.map_nil]
  have hmain : (Builtin.len_ #[t] o.type #[a.eval x]).run P w = .ok (.int .i64 n) w := by
    generalize ev s.T x = lv at hx hx' hpre
    generalize a.eval x = v at hx'
    rcases hs with hs | ⟨el, hs⟩
    · obtain ⟨b, hb⟩ := hpre.1 hs
      have := (sc_of hb hx').1
      subst this
      unfold sc? at hb
      split at hb
      · cases hb
        cases hx
        simp [Builtin.len_, run_und (h.str hs), goInt]
      · cases hb
    · have hu := h.slice hs
      have hno : ∀ b, sc? lv ≠ some (.string b) := fun b hb => by
        have := hpre.2 ⟨b, hb⟩
        rw [hs] at this; cases this
      unfold lenLV at hx
      split at hx
      · exact absurd rfl (hno _)
      · cases hx
        cases hx' with
        | lf hr => cases hr with
          | nil => simp [Builtin.len_, run_und hu, goInt]
          | sl => simp [Builtin.len_, run_und hu, goInt]
      · cases hx
        cases hx' with
        | nl a => simp [Builtin.len_, run_und hu, goInt]
      · cases hx
        cases hx' with
        | os => simp [Builtin.len_, run_und hu, goInt]
      · cases hx
  simp [hmain]

theorem does_field {t : Nat} {e et : TE} {x : Operand} {fs : List (Nat × Nat)} {f ft fo : Nat} {ls : List LV} (h : OkT P t e) (hs : e.sh = .struct fs) (hf : fs[f]? = some (ft, fo)) (ht : OkT P ft et) (hk : et.sh.known = true)
    (hx : ev s.T x = .ag ls) (hb : fo + et.size ≤ ls.length) (h1 : et.sh.agg = false → 0 < et.size) : Does P (.field t x f) s ⟨True, gath et.sh.agg ((ls.drop fo).take et.size), s.H, s.nx⟩ := by
  refine .quiet rfl rfl fun w0 W0 c a w hr _ => ?_
  have hx' := ev_ok hr x
  rw [hx] at hx'
  obtain ⟨flds, fl, hu, hfl, e1, e2⟩ := h.field hs hf
  generalize hv : a.eval x = v at hx'
  cases hx' with
  | ag cs hn hcs hc =>
    rename_i vs
    refine ⟨if et.sh.agg then .agg ((List.range et.size).map fun j => cs (fo + j)).toArray else cs (fo + 0), fun o ho => ?_, ?_⟩
    · unfold execOp
      rw [ho]
      have hag := ht.runAgg hk w
      have hsz := ht.runSize w
      rw [← e1] at hag hsz
      simp only [hv, Instr.field, Sem.run_bind, run_und hu, Result.andThen_ok, hfl, asAgg, Sem.run_pure, part, hag, e2]
      cases hg : et.sh.agg with
      | true =>
        simp only [if_true, Sem.run_bind, hsz, Result.andThen_ok, Sem.run_pure]
        have : vs.extract fo (fo + et.size) = ((List.range et.size).map fun j => cs (fo + j)).toArray := by
          apply Array.ext
          · simp; omega
          · intro i h1 h2
            have hi : i < et.size := by simpa using h2
            have := hcs (fo + i) (by omega)
            have hlt : fo + i < vs.size := by omega
            rw [Array.getElem?_eq_getElem hlt] at this
            simp only [Option.some.injEq] at this
            simp [this]
        rw [this]
      | false =>
        have := hcs fo (by have := h1 hg; omega)
        simp [this]
    · have hlen : ((ls.drop fo).take et.size).length = et.size := by simp; omega
      have := gath_ok (agg := et.sh.agg) (ls := (ls.drop fo).take et.size) (w := w) (c := c) (cs := fun j => cs (fo + j)) (fun j hj => by
        rw [hlen] at hj
        simp only [List.getElem_take, List.getElem_drop]
        exact hc (fo + j) (by omega)) (by rw [hlen]; exact h1)
      rw [hlen] at this
      exact this

theorem does_makeFunc {f : FuncId} {caps : Array Operand} : Does P (.makeFunc (.func f) #[] caps) s ⟨True, .fn f (caps.toList.map (ev s.T)), s.H, s.nx⟩ := by
  refine .quiet rfl rfl fun w0 W0 c a w hr _ => ?_
  refine ⟨.func (.func f) #[] (caps.map a.eval), fun o ho => ?_, .fn (fun j => a.eval (caps.getD j (.const undef))) (by simp) (fun j hj => ?_) fun j hj => ?_⟩
  · unfold execOp
    rw [ho]
    simp [Instr.makeFunc]
  · have hj' : j < caps.size := by simpa using hj
    simp [hj']
  · have hj' : j < caps.size := by simpa using hj
    simp only [List.getElem_map, Array.getElem_toList]
    have : caps.getD j (.const undef) = caps[j] := by simp [hj']
    rw [this]
    exact ev_ok hr _

/-- A conversion between whole numbers. -/
theorem OkT.int {t : Nat} {e : TE} {k : IntKind} (h : OkT P t e) (hs : e.sh = .int k) : P.underlying t = some (.int k) := by
  obtain ⟨d, hd, hsh⟩ := h.und
  rw [hs] at hsh
  cases d <;> simp [shapeOf] at hsh
  subst hsh
  exact hd

theorem OkT.bool {t : Nat} {e : TE} (h : OkT P t e) (hs : e.sh = .bool) : P.underlying t = some .bool := by
  obtain ⟨d, hd, hsh⟩ := h.und
  rw [hs] at hsh
  cases d <;> simp [shapeOf] at hsh
  exact hd

theorem does_convert_int {t u : Nat} {e f : TE} {x : Operand} {k k' : IntKind} {n : Int} (ht : OkT P t e) (hte : e.sh = .int k') (hu : OkT P u f) (huf : f.sh = .int k) (hx : sc? (ev s.T x) = some (.int k' n)) :
    Does P (.convert t u x) s ⟨True, .lf false (.sc (.int k (k.wrap n))), s.H, s.nx⟩ := by
  refine .quiet rfl rfl fun w0 W0 c a w hr _ => ?_
  have hx' := (sc_of hx (ev_ok hr x)).1
  refine ⟨_, fun o ho => ?_, .lf (.sc rfl)⟩
  unfold execOp
  rw [ho]
  simp [hx', convert, run_und (ht.int hte), run_und (hu.int huf), Conv.intToInt]

/-- '==' and '!=' of Bools. -/
theorem does_bool_eq {t t' : Nat} {e : TE} {x y : Operand} {p q : Bool} {op : BinOp} (ht : OkT P t e) (hte : e.sh = .bool) (hop : op = .eql ∨ op = .neq) (hx : sc? (ev s.T x) = some (.bool p)) (hy : sc? (ev s.T y) = some (.bool q)) :
    Does P (.binOp op t x y t') s ⟨True, .lf false (.sc (.bool (if op = .eql then p == q else !(p == q)))), s.H, s.nx⟩ := by
  refine .quiet rfl rfl fun w0 W0 c a w hr _ => ?_
  have hx' := (sc_of hx (ev_ok hr x)).1
  have hy' := (sc_of hy (ev_ok hr y)).1
  refine ⟨_, fun o ho => ?_, .lf (.sc rfl)⟩
  unfold execOp
  rw [ho]
  have hg := guard_run (P := P) (op := op) (x := .bool p) (y := .bool q) rfl t x y w
  have he : (Op.equal t (.bool p) (.bool q)).run P w = .ok (p == q) w := run_equalIn_bool' w 9999 t p q (ht.bool hte)
  rcases hop with rfl | rfl
  · have h1 : Go.binOp .eql t (.bool p) (.bool q) = (do pure (.bool (← Op.equal t (.bool p) (.bool q)))) := rfl
    simp only [hx', hy', Sem.run_bind, hg, Result.andThen_ok, h1, he, Sem.run_pure, if_true]
  · have h1 : Go.binOp .neq t (.bool p) (.bool q) = (do pure (.bool (!(← Op.equal t (.bool p) (.bool q))))) := rfl
    simp only [hx', hy', Sem.run_bind, hg, Result.andThen_ok, h1, he, Sem.run_pure]
    simp
end
end Go.TL

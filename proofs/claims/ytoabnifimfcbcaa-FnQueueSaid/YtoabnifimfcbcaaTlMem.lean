/- Variables in memory: alloc, box, load, store, the address of a field. -/
import Derived.Test.YtoabnifimfcbcaaTlOps
import Derived.Laws.IdiomCopy
set_option linter.unusedSimpArgs false
set_option linter.unusedVariables false
namespace Go.TL
open Go

section
variable {P : Program} {t : Nat} {e : TE}

theorem OkT.info (h : OkT P t e) : ∃ i z, P.info? t = some i ∧ i.size = e.size ∧ i.bytes = e.bytes ∧ i.zero = some z ∧ z.cells.toList = e.zero := by
  obtain ⟨h, _⟩ := h
  cases hi : P.info? t with
  | none => rw [hi] at h; cases h
  | some i =>
    rw [hi] at h
    simp only [Option.map_some, Option.some.injEq, Prod.mk.injEq] at h
    obtain ⟨h1, h2, h3⟩ := h
    cases hz : i.zero with
    | none => rw [hz] at h3; cases h3
    | some z =>
      rw [hz] at h3
      simp only [Option.map_some, Option.some.injEq] at h3
      exact ⟨i, z, rfl, h1, h2, hz, h3⟩

theorem OkT.und (h : OkT P t e) : ∃ d, P.underlying t = some d ∧ shapeOf d = e.sh := by
  obtain ⟨_, h⟩ := h
  cases hd : P.underlying t with
  | none => rw [hd] at h; cases h
  | some d => rw [hd] at h; exact ⟨d, rfl, by simpa using h⟩

theorem run_info {i : TypeInfo} (h : P.info? t = some i) (w : World) : (typeInfo t).run P w = .ok i w := by simp [typeInfo, h]
theorem run_und {d : TypeDesc} (h : P.underlying t = some d) (w : World) : (underlying t).run P w = .ok d w := by simp [underlying, h]

theorem OkT.runSize (h : OkT P t e) (w : World) : (sizeOf t).run P w = .ok e.size w := by
  obtain ⟨i, z, hi, h1, _⟩ := h.info
  simp [sizeOf, run_info hi, h1]

theorem OkT.runZero (h : OkT P t e) : ∃ z : Value, z.cells.toList = e.zero ∧ ∀ w, (zeroValue t).run P w = .ok z w := by
  obtain ⟨i, z, hi, _, _, hz, h3⟩ := h.info
  exact ⟨z, h3, fun w => by simp [zeroValue, run_info hi, hz]⟩

def Sh.agg : Sh → Bool
  | .struct _ => true
  | _ => false
def Sh.known : Sh → Bool
  | .other => false
  | _ => true

theorem OkT.runAgg (h : OkT P t e) (hk : e.sh.known = true) (w : World) : (isAgg t).run P w = .ok e.sh.agg w := by
  obtain ⟨d, hd, hs⟩ := h.und
  rw [← hs] at hk ⊢
  cases d <;> simp [shapeOf, Sh.known] at hk <;> simp [isAgg, run_und hd, shapeOf, Sh.agg]
end

theorem heap_push_cell (w : World) (cs : Array Value) (T : TypeId) (i : Nat) : (w.alloc (.cells cs T)).cell? ⟨w.heap.size, i, none⟩ = cs[i]? := World.cell?_alloc_new w cs T i

theorem keep_alloc (w : World) (o : Obj) : Keep (fun _ _ => False) w (w.alloc o) where
  os := rfl
  tape := rfl
  output := rfl
  size := by simp
  cell b k hb _ := World.cell?_alloc_lt w o _ hb
  frz b k hb _ := World.frozen?_alloc_old w o _ (Nat.ne_of_lt hb)
  blk b hb _ := Go.RowKit.Below.heap_alloc w o b hb

/-- A new box. -/
theorem sit_alloc {w0 w : World} {W0 : Fr} {c : Ctx} {H : Heap} (s : Sit w0 W0 c H w) (T : TypeId) (vs : Array Value) (ls : List LV) (hn : ls.length ≤ vs.size)
    (hv : ∀ j (hj : j < ls.length) v, vs[j]? = some v → Cv w c (ls[j]) v) :
    Sit w0 W0 (c.push ⟨w.heap.size, 0, vs.size⟩) (upd H c.nx (some (true, .box ls))) (w.alloc (.cells vs T)) ∧ Same c w (w.alloc (.cells vs T)) := by
  have hs := s.same (keep_alloc w (.cells vs T)) (fun _ _ _ h => h.elim)
  refine s.push (keep_alloc w _) _ (fun _ _ h => h) (fun _ => False) (fun _ h => h.elim) (fun _ _ _ h => h.elim) (fun b j hb => .inl (by rw [hb.1]; exact Nat.le_refl _)) ?_
  refine ⟨hn, fun j hj => ?_, fun j hj v hv' => ?_⟩
  · have hj' : j < vs.size := hj
    exact ⟨vs[j], by simp [hj'], by simp⟩
  · simp only [Nat.zero_add, heap_push_cell] at hv'
    exact (hv j hj v hv').mono (c.le_push _) hs

def St.box (s : St) (ls : List LV) : Res := ⟨True, .pb s.nx 0, (s.nx, some (true, .box ls)) :: s.H, s.nx + 1⟩

theorem alloc_eq (w : World) (o : Obj) : ({ w with heap := w.heap.push o } : World) = w.alloc o := rfl

section
variable {P : Program} {s : St}

theorem does_alloc {t : Nat} {e : TE} (h : OkT P t e) : Does P (.alloc t) s (s.box (e.zero.map cellLV)) := by
  intro w0 W0 c a w hr _
  obtain ⟨z, hz, hrun⟩ := h.runZero
  have hsz : (e.zero.map cellLV).length = z.cells.size := by rw [← hz]; simp
  obtain ⟨hs, hsame⟩ := sit_alloc hr.sit t z.cells (e.zero.map cellLV) (by rw [hsz]; exact Nat.le_refl _) (fun j hj v hv => by
    rw [List.getElem_map]
    have : z.cells.toList[j]? = some v := by simpa using hv
    rw [hz] at this
    have hj' : j < e.zero.length := by simpa using hj
    rw [List.getElem?_eq_getElem hj'] at this
    cases this
    exact cell_ok _ _ _)
  refine ⟨.value (.pointer (some ⟨w.heap.size, 0, none⟩)), _, _, _, fun o ho => ?_, .inl rfl, c.le_push ⟨w.heap.size, 0, z.cells.size⟩, ?_, ?_, hsame, ?_⟩
  · unfold execOp
    rw [ho]
    simp only [Instr.alloc, Sem.run_bind, hrun, Result.andThen_ok, newVar, newRow, run_newObj, Sem.run_pure, alloc_eq]
  · show c.nx + 1 = s.nx + 1
    rw [hr.nx]
  · show Sit w0 W0 _ (hp ((s.nx, _) :: s.H)) _
    rw [hp_cons, ← hr.nx]
    exact hs
  · have := @Cv.pb (w.alloc (.cells z.cells t)) (c.push ⟨w.heap.size, 0, z.cells.size⟩) c.nx 0 (Nat.lt_succ_self _)
    rw [Ctx.push_loc] at this
    show Cv _ _ (.pb s.nx 0) _
    rw [← hr.nx]
    exact this

/-- One cell. -/
def flat : LV → Bool
  | .lf .. | .nl | .os .. | .pb .. | .pe .. | .ra .. | .fn .. => true
  | _ => false

theorem flat_one {w : World} {c : Ctx} {lv : LV} {v : Value} (hf : flat lv = true) (h : Cv w c lv v) : v.oneCell' = true ∧ v.cells = #[v] := by
  cases h with
  | lf h => cases h with
    | sc h => revert h; cases v <;> simp [scal, Value.oneCell', Value.cells]
    | nil => exact ⟨rfl, rfl⟩
    | sl => exact ⟨rfl, rfl⟩
  | un => cases hf
  | nl => exact ⟨rfl, rfl⟩
  | os => exact ⟨rfl, rfl⟩
  | pb => exact ⟨rfl, rfl⟩
  | pe => exact ⟨rfl, rfl⟩
  | ra => exact ⟨rfl, rfl⟩
  | ag => cases hf
  | tu => cases hf
  | fn => exact ⟨rfl, rfl⟩

/-- A value's cells. -/
def cellsOf? : LV → Option (List LV)
  | .ag ls => some ls
  | lv => if flat lv = true then some [lv] else none

theorem cells_of {w : World} {c : Ctx} {lv : LV} {v : Value} {ls : List LV} (h : cellsOf? lv = some ls) (hc : Cv w c lv v) :
    v.cells.size = ls.length ∧ ∀ j (hj : j < ls.length) u, v.cells[j]? = some u → Cv w c (ls[j]) u := by
  unfold cellsOf? at h
  split at h
  · cases h
    cases hc with
    | ag cs hn hv hcv =>
      refine ⟨hn, fun j hj u hu => ?_⟩
      have hu' : some (cs j) = some u := (hv j hj).symm.trans hu
      cases hu'
      exact hcv j hj
  · split at h
    · rename_i hf
      cases h
      obtain ⟨_, h2⟩ := flat_one hf hc
      rw [h2]
      refine ⟨rfl, fun j hj u hu => ?_⟩
      have : j = 0 := by simp at hj; omega
      subst this
      simp at hu
      subst hu
      exact hc
    · cases h

theorem does_box {t : Nat} {x : Operand} {ls : List LV} (h : cellsOf? (ev s.T x) = some ls) : Does P (.box t x) s (s.box ls) := by
  intro w0 W0 c a w hr _
  have hx := ev_ok hr x
  obtain ⟨hn, hv⟩ := cells_of h hx
  obtain ⟨hs, hsame⟩ := sit_alloc hr.sit t (a.eval x).cells ls (by rw [hn]; exact Nat.le_refl _) hv
  refine ⟨.value (.pointer (some ⟨w.heap.size, 0, none⟩)), _, _, _, fun o ho => ?_, .inl rfl, c.le_push ⟨w.heap.size, 0, (a.eval x).cells.size⟩, ?_, ?_, hsame, ?_⟩
  · unfold execOp
    rw [ho]
    simp only [Instr.box, Sem.run_bind, newVar, newRow, run_newObj, Result.andThen_ok, Sem.run_pure, alloc_eq]
  · show c.nx + 1 = s.nx + 1
    rw [hr.nx]
  · show Sit w0 W0 _ (hp ((s.nx, _) :: s.H)) _
    rw [hp_cons, ← hr.nx]
    exact hs
  · have := @Cv.pb (w.alloc (.cells (a.eval x).cells t)) (c.push ⟨w.heap.size, 0, (a.eval x).cells.size⟩) c.nx 0 (Nat.lt_succ_self _)
    rw [Ctx.push_loc] at this
    show Cv _ _ (.pb s.nx 0) _
    rw [← hr.nx]
    exact this

theorem add_none (b o k : Nat) : (⟨b, o, none⟩ : Addr).add k = ⟨b, o + k, none⟩ := by unfold Addr.add; split <;> simp_all

/-- A variable of one cell or more, whose cells are known. -/
theorem run_loadVar {t : Nat} {e : TE} (h : OkT P t e) (hk : e.sh.known = true) {w : World} {b o : Nat} {cs : Nat → Value} (n : Nat) (hn : e.size = n) (h1 : e.sh.agg = false → 0 < n)
    (hc : ∀ j, j < n → w.cell? ⟨b, o + j, none⟩ = some (cs j)) :
    (loadVar t ⟨b, o, none⟩).run P w = .ok (if e.sh.agg then .agg ((List.range n).map cs).toArray else cs 0) w := by
  unfold loadVar
  simp only [Sem.run_bind, h.runAgg hk, Result.andThen_ok]
  cases ha : e.sh.agg with
  | true =>
    simp only [if_true, Sem.run_bind, h.runSize, Result.andThen_ok, hn]
    rw [run_loadCells w ⟨b, o, none⟩ n cs (fun j hj => by rw [add_none]; exact hc j hj)]
    simp
  | false =>
    have := hc 0 (h1 ha)
    simp only [Nat.add_zero] at this
    simp [this]

/-- The value of such a variable. -/
def gath (agg : Bool) (ls : List LV) : LV := if agg then .ag ls else ls.getD 0 .un

theorem gath_ok {w : World} {c : Ctx} {agg : Bool} {ls : List LV} {cs : Nat → Value} (h : ∀ j (hj : j < ls.length), Cv w c (ls[j]) (cs j)) (h1 : agg = false → 0 < ls.length) :
    Cv w c (gath agg ls) (if agg then .agg ((List.range ls.length).map cs).toArray else cs 0) := by
  cases agg with
  | true =>
    refine .ag cs (by simp) (fun j hj => ?_) h
    simp [hj]
  | false =>
    have h0 := h1 rfl
    have := h 0 h0
    unfold gath
    simp only [Bool.false_eq_true, if_false]
    rw [show ls.getD 0 .un = ls[0] by simp [h0]]
    exact this

/-- A load out of a box. -/
theorem does_load_pb {t : Nat} {e : TE} {x : Operand} {id off : Nat} {fr : Bool} {ls : List LV} (h : OkT P t e) (hk : e.sh.known = true) (hx : ev s.T x = .pb id off) (ho : hp s.H id = some (fr, .box ls))
    (hb : off + e.size ≤ ls.length) (h1 : e.sh.agg = false → 0 < e.size) : Does P (.load t x) s ⟨True, gath e.sh.agg ((ls.drop off).take e.size), s.H, s.nx⟩ := by
  refine .quiet rfl rfl fun w0 W0 c a w hr _ => ?_
  have hx' := ev_ok hr x
  rw [hx] at hx'
  generalize hv : a.eval x = v at hx'
  cases hx' with
  | pb hid =>
    obtain ⟨g1, g2, g3⟩ : Holds w c (c.loc id) (.box ls) := (hr.sit.own id _ ho).2
    have hcell : ∀ j, j < e.size → w.cell? ⟨(c.loc id).b, (c.loc id).base + off + j, none⟩ = some ((w.cell? ⟨(c.loc id).b, (c.loc id).base + off + j, none⟩).getD undef) := by
      intro j hj
      obtain ⟨u, hu, _⟩ := g2 (off + j) (by omega)
      rw [← Nat.add_assoc] at hu
      rw [hu]; rfl
    refine ⟨if e.sh.agg then .agg ((List.range e.size).map fun j => (w.cell? ⟨(c.loc id).b, (c.loc id).base + off + j, none⟩).getD undef).toArray else (w.cell? ⟨(c.loc id).b, (c.loc id).base + off + 0, none⟩).getD undef, fun o ho => ?_, ?_⟩
    · unfold execOp
      rw [ho]
      simp only [hv, Instr.loadAt, Instr.sureAddr, Sem.run_bind, Sem.run_pure, Result.andThen_ok]
      rw [run_loadVar h hk e.size rfl h1 hcell]
      rfl
    · have hlen : ((ls.drop off).take e.size).length = e.size := by simp; omega
      have := gath_ok (agg := e.sh.agg) (ls := (ls.drop off).take e.size) (w := w) (c := c) (cs := fun j => (w.cell? ⟨(c.loc id).b, (c.loc id).base + off + j, none⟩).getD undef) (fun j hj => by
        rw [hlen] at hj
        simp only [List.getElem_take, List.getElem_drop]
        have := hcell j hj
        rw [Nat.add_assoc] at this ⊢
        exact g3 (off + j) (by omega) _ this) (by rw [hlen]; exact h1)
      rw [hlen] at this
      exact this

theorem mk_ok {w : World} {c : Ctx} {tt : Bool} {l : Leaf} {v : Value} (h : RepL w (c.fs tt) v l) : Cv w c (mk tt l) v := by
  cases h with
  | sc hs => exact .lf (.sc hs)
  | nil => exact .lf .nil
  | sl cs a b d e => exact .lf (.sl cs a b d e)

/-- A load out of frozen memory. -/
theorem does_load_ra {t : Nat} {e : TE} {x : Operand} {tt : Bool} {ls : List Leaf} (h : OkT P t e) (hk : e.sh.known = true) (hx : ev s.T x = .ra tt ls)
    (hb : e.size ≤ ls.length) (h1 : e.sh.agg = false → 0 < e.size) : Does P (.load t x) s ⟨True, gath e.sh.agg ((ls.take e.size).map (mk tt)), s.H, s.nx⟩ := by
  refine .quiet rfl rfl fun w0 W0 c a w hr _ => ?_
  have hx' := ev_ok hr x
  rw [hx] at hx'
  generalize hv : a.eval x = v at hx'
  cases hx' with
  | ra cs hS hrep =>
    refine ⟨if e.sh.agg then .agg ((List.range e.size).map cs).toArray else cs 0, fun o ho => ?_, ?_⟩
    · unfold execOp
      rw [ho]
      simp only [hv, Instr.loadAt, Instr.sureAddr, Sem.run_bind, Sem.run_pure, Result.andThen_ok]
      rw [run_loadVar h hk e.size rfl h1 (fun j hj => (hS j (by omega)).2)]
      rfl
    · have hlen : ((ls.take e.size).map (mk tt)).length = e.size := by simp; omega
      have := gath_ok (agg := e.sh.agg) (ls := (ls.take e.size).map (mk tt)) (w := w) (c := c) (cs := cs) (fun j hj => by
        rw [hlen] at hj
        simp only [List.getElem_map, List.getElem_take]
        exact mk_ok (hrep j (by omega))) (by rw [hlen]; exact h1)
      rw [hlen] at this
      exact this
end
end Go.TL

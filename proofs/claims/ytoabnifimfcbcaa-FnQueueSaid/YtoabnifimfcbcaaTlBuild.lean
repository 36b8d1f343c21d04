/- Values built: structs, slices of given elements; struct comparisons; bytes as a string. -/
import Derived.Test.YtoabnifimfcbcaaTlAppend
import Derived.Laws.Tables
set_option linter.unusedSimpArgs false
set_option linter.unusedVariables false
namespace Go.TL
open Go

/-- One part laid over the cells. -/
theorem lay_get (off : Nat) : ∀ (l : List Value) (k : Nat) (cells : Array Value), let r := (l.zipIdx k).foldl (fun cs p => cs.setIfInBounds (off + p.2) p.1) cells
    r.size = cells.size ∧ ∀ q, r[q]? = if off + k ≤ q ∧ q < off + k + l.length ∧ q < cells.size then l[q - (off + k)]? else cells[q]?
  | [], k, cells => by
    refine ⟨rfl, fun q => ?_⟩
    rw [if_neg (by simp; omega)]
    rfl
  | v :: r, k, cells => by
    obtain ⟨h1, h2⟩ := lay_get off r (k + 1) (cells.setIfInBounds (off + k) v)
    simp only [List.zipIdx_cons, List.foldl_cons]
    refine ⟨by rw [h1]; simp, fun q => ?_⟩
    rw [h2 q]
    simp only [Array.size_setIfInBounds, List.length_cons]
    by_cases hq : q = off + k
    · subst hq
      rw [if_neg (by omega)]
      by_cases hlt : off + k < cells.size
      · rw [if_pos (by omega)]
        simp [hlt]
      · rw [if_neg (by omega)]
        rw [Array.getElem?_eq_none (by simp; omega), Array.getElem?_eq_none (by omega)]
    · by_cases hin : off + (k + 1) ≤ q ∧ q < off + (k + 1) + r.length ∧ q < cells.size
      · rw [if_pos hin, if_pos (by omega), show q - (off + k) = q - (off + (k + 1)) + 1 by omega]
        rfl
      · rw [if_neg hin, if_neg (by omega), Array.getElem?_setIfInBounds, if_neg (Ne.symm hq)]

/-- The parts of a slice literal, one behind another. -/
theorem fill_get (size : Nat) : ∀ (parts : List (Nat × Value)) (i : Nat) (cells : Array Value), parts.map (·.1) = List.range' i parts.length → (∀ p ∈ parts, p.2.cells.size = size) → (i + parts.length) * size ≤ cells.size →
    ∃ r, Instr.fill (fun i => some (i * size, size)) cells parts = some r ∧ r.size = cells.size ∧ (∀ k (hk : k < parts.length) j, j < size → r[(i + k) * size + j]? = (parts[k]).2.cells[j]?) ∧ ∀ q, q < i * size → r[q]? = cells[q]?
  | [], i, cells, _, _, _ => ⟨cells, rfl, rfl, fun k hk => by simp at hk, fun q _ => rfl⟩
  | (i', v) :: rest, i, cells, hi, hs, hb => by
    simp only [List.map_cons, List.length_cons, List.range'_succ, List.cons.injEq] at hi
    obtain ⟨rfl, hi⟩ := hi
    have hv : v.cells.size = size := hs _ List.mem_cons_self
    have hmul : (i' + (rest.length + 1)) * size = i' * size + size + rest.length * size := by rw [Nat.add_mul, Nat.add_mul, Nat.one_mul]; omega
    rw [List.length_cons, hmul] at hb
    have hlay := lay_get (i' * size) v.cells.toList 0 cells
    simp only [Nat.add_zero] at hlay
    obtain ⟨l1, l2⟩ := hlay
    have hfold : v.cells.zipIdx.foldl (fun cs (c, j) => cs.setIfInBounds (i' * size + j) c) cells = (v.cells.toList.zipIdx 0).foldl (fun cs p => cs.setIfInBounds (i' * size + p.2) p.1) cells := by
      rw [← Array.foldl_toList]
      simp [Array.toList_zipIdx]
    obtain ⟨r, h1, h2, h3, h4⟩ := fill_get size rest (i' + 1) ((v.cells.toList.zipIdx 0).foldl (fun cs p => cs.setIfInBounds (i' * size + p.2) p.1) cells) hi (fun p hp => hs p (List.mem_cons_of_mem _ hp))
      (by rw [l1, Nat.add_mul, Nat.add_mul, Nat.one_mul]; omega)
    refine ⟨r, ?_, by rw [h2, l1], fun k hk j hj => ?_, fun q hq => ?_⟩
    · have hc : ¬ ((decide (v.cells.size ≠ size) || decide (i' * size + v.cells.size > cells.size)) = true) := by
        rw [hv]
        simp
        omega
      unfold Instr.fill
      simp only
      rw [if_neg hc, hfold]
      exact h1
    · cases k with
      | zero =>
        rw [h4 _ (by simp only [Nat.add_mul, Nat.one_mul, Nat.zero_mul]; omega), l2]
        simp only [Nat.add_zero, List.getElem_cons_zero]
        rw [if_pos (by simp [hv]; omega)]
        simp
      | succ k =>
        have := h3 k (by simpa using hk) j hj
        rw [show i' + (k + 1) = i' + 1 + k by omega]
        exact this
    · rw [h4 q (by rw [Nat.add_mul, Nat.one_mul]; omega), l2, if_neg (by omega)]

section
variable {P : Program} {s : St}

/-- The elements of a slice literal. -/
def partRows (T : List (Nat × LV)) (es : Nat) : List (Nat × Operand) → Option (Bool × List (List Leaf))
  | [] => some (false, [])
  | (_, x) :: r => match cellsOf? (ev T x), partRows T es r with
    | some ks, some (t, rows) => match leaves? ks with
      | some (u, ls) => if ls.length = es then some (u || t, ls :: rows) else none
      | none => none
    | _, _ => none

theorem parts_ok {w0 w : World} {W0 : Fr} {c : Ctx} {a : Act} (hr : Rel w0 W0 c s a w) {es : Nat} : ∀ {l : List (Nat × Operand)} {t : Bool} {rows : List (List Leaf)}, partRows s.T es l = some (t, rows) →
    rows.length = l.length ∧ (∀ r ∈ rows, r.length = es) ∧ (∀ p ∈ l, (a.eval p.2).cells.size = es) ∧ ∀ i (hi : i < l.length) (hi' : i < rows.length) j (hj : j < (rows[i]).length) v, (a.eval (l[i]).2).cells[j]? = some v → RepL w (c.fs t) v ((rows[i])[j])
  | [], t, rows, h => by cases h; exact ⟨rfl, fun r hr => by simp at hr, fun p hp => by simp at hp, fun i hi => by simp at hi⟩
  | (k, x) :: r, t, rows, h => by
    unfold partRows at h
    split at h
    · rename_i ks t' rows' h1 h2
      split at h
      · rename_i u ls h3
        split at h
        · rename_i hes
          cases h
          obtain ⟨g1, g2, g3, g4⟩ := parts_ok hr h2
          obtain ⟨c1, c2⟩ := cells_of h1 (ev_ok hr x)
          obtain ⟨l1, l2⟩ := leaves_of (w := w) (c := c) h3
          refine ⟨by simp [g1], fun r hr => ?_, fun p hp => ?_, fun i hi hi' j hj v hv => ?_⟩
          · rcases List.mem_cons.1 hr with rfl | hr
            · exact hes
            · exact g2 _ hr
          · rcases List.mem_cons.1 hp with rfl | hp
            · simp only; omega
            · exact g3 _ hp
          · cases i with
            | zero =>
              simp only [List.getElem_cons_zero] at hj hv ⊢
              exact (l2 j (by omega) hj v (c2 j (by omega) v hv)).sub fun b k x => (Ctx.fs_or x).1
            | succ i =>
              simp only [List.getElem_cons_succ] at hj hv ⊢
              exact (g4 i (by simpa using hi) (by simpa using hi') j hj v hv).sub fun b k x => (Ctx.fs_or x).2
        · cases h
      · cases h
    · cases h

theorem does_buildSlice {t el : Nat} {e ee : TE} {len : Nat} {parts : Array (Nat × Operand)} {tt : Bool} {rows : List (List Leaf)} (ht : OkT P t e) (hs : e.sh = .slice el) (he : OkT P el ee) (hpr : partRows s.T ee.size parts.toList = some (tt, rows)) (hidx : parts.toList.map (·.1) = List.range len)
    (hbd : len * ee.size ≤ 16777216) : Does P (.buildSlice t len parts) s ⟨True, .os s.nx ee.size 0 len len true, (s.nx, some (true, .arr tt ee.size rows)) :: s.H, s.nx + 1⟩ := by
  intro w0 W0 cx a w hr _
  obtain ⟨g1, g2, g3, g4⟩ := parts_ok hr hpr
  obtain ⟨z, hz, hzr⟩ := he.runZero
  have hlen : parts.toList.length = len := by have := congrArg List.length hidx; simpa using this
  let base : Array Value := (Array.range (len * ee.size)).map ((if len * ee.size = 0 then (#[] : Array Value) else z.cells)[· % (if len * ee.size = 0 then (#[] : Array Value) else z.cells).size]!)
  have hbase : base.size = len * ee.size := by simp [base]
  let vparts : List (Nat × Value) := (parts.map fun (i, x) => (i, a.eval x)).toList
  have hvp : vparts = parts.toList.map fun p => (p.1, a.eval p.2) := by simp [vparts]
  have hvl : vparts.length = len := by rw [hvp]; simpa using hlen
  obtain ⟨r, h1, h2, h3, _⟩ := fill_get ee.size vparts 0 base (by rw [hvl, ← List.range_eq_range', hvp, ← hidx]; simp) (fun p hp => by
    rw [hvp, List.mem_map] at hp
    obtain ⟨q, hq, rfl⟩ := hp
    exact g3 q hq) (by rw [Nat.zero_add, hvl, hbase]; exact Nat.le_refl _)
  have hcs : CellsOf w (cx.fs tt) ee.size r.toList rows := by
    refine ⟨by rw [Array.length_toList, h2, hbase, g1, hlen], g2, fun i j hi hj v hv => ?_⟩
    have hje : j < ee.size := by rw [← g2 _ (List.getElem_mem hi)]; exact hj
    have := h3 i (by omega) j hje
    rw [Nat.zero_add] at this
    have hv' : r[i * ee.size + j]? = some v := by simpa using hv
    rw [this] at hv'
    have hgi : (vparts[i]'(by omega)).2 = a.eval (parts.toList[i]'(by omega)).2 := by simp [hvp]
    rw [hgi] at hv'
    exact g4 i (by omega) hi j hj v hv'
  obtain ⟨hsit, hsame⟩ := sit_newrow (fr := true) (n := len * ee.size) hr.sit (Keep.refl _ w) rfl el r (by rw [h2, hbase]) (fun _ _ h => h) hcs (by simp) (fun j v hj => by simpa using hj)
  refine ⟨.value (.slice (some ⟨w.heap.size, 0, none⟩) len len), _, _, _, fun o ho => ?_, .inl rfl, cx.le_push ⟨w.heap.size, 0, len * ee.size⟩, by show cx.nx + 1 = s.nx + 1; rw [hr.nx], ?_, hsame, ?_⟩
  · unfold execOp
    rw [ho]
    have hnb : ¬ (len * ee.size > 2 ^ 24) := by omega
    have h1' : Instr.fill (fun i => some (i * ee.size, ee.size)) ((Array.range (len * ee.size)).map fun x => (if len * ee.size = 0 then (#[] : Array Value) else z.cells)[x % (if len * ee.size = 0 then (#[] : Array Value) else z.cells).size]!) (parts.map fun (i, x) => (i, a.eval x)).toList = some r := h1
    simp only [Instr.buildSlice, Sem.run_bind, run_und (ht.slice hs), Result.andThen_ok, he.runSize, hnb, if_false]
    by_cases h0 : len * ee.size = 0
    · simp only [h0, if_true] at h1' ⊢
      simp only [Sem.run_bind, Sem.run_pure, Result.andThen_ok, h1', newRow, run_newObj, alloc_eq]
    · simp only [h0, if_false] at h1' ⊢
      simp only [Sem.run_bind, Sem.run_pure, hzr, Result.andThen_ok, h1', newRow, run_newObj, alloc_eq]
  · show Sit w0 W0 _ (hp ((s.nx, _) :: s.H)) _
    rw [hp_cons, ← hr.nx]
    exact hsit
  · show Cv _ _ (.os s.nx ee.size 0 len len true) _
    rw [← hr.nx]
    refine .os (Nat.lt_succ_self _) (Nat.le_refl _) (Nat.le_refl _) (fun _ => rfl) (.inr ?_) ?_
    · rw [Ctx.push_loc]; simp
    · rw [Ctx.push_loc]; simp
/-! ### Struct values -/

def places (tab : Tab) : List (Nat × Nat) → Option (List (Nat × Nat))
  | [] => some []
  | (ft, fo) :: r => match look tab ft, places tab r with
    | some et, some ps => some ((fo, et.size) :: ps)
    | _, _ => none

def partsPut (T : List (Nat × LV)) (ps : List (Nat × Nat)) : List LV → List (Nat × Operand) → Option (List LV)
  | cells, [] => some cells
  | cells, (i, x) :: r => match ps[i]?, cellsOf? (ev T x) with
    | some (fo, n), some ks => if ks.length = n ∧ fo + n ≤ cells.length then partsPut T ps (put cells fo ks) r else none
    | _, _ => none

theorem partsPut_fill {w0 w : World} {W0 : Fr} {c : Ctx} {a : Act} (hr : Rel w0 W0 c s a w) {ps : List (Nat × Nat)} {place : Nat → Option (Nat × Nat)} (hpl : ∀ i, place i = ps[i]?) : ∀ (l : List (Nat × Operand)) (ls : List LV) (cells : Array Value) (out : List LV), partsPut s.T ps ls l = some out →
    cells.size = ls.length → (∀ j (hj : j < ls.length) v, cells[j]? = some v → Cv w c (ls[j]) v) →
    ∃ r, Instr.fill place cells (l.map fun p => (p.1, a.eval p.2)) = some r ∧ r.size = out.length ∧ ∀ j (hj : j < out.length) v, r[j]? = some v → Cv w c (out[j]) v
  | [], ls, cells, out, h, hn, hc => by cases h; exact ⟨cells, rfl, hn, hc⟩
  | (i, x) :: l, ls, cells, out, h, hn, hc => by
    unfold partsPut at h
    split at h
    · rename_i fo n ks h1 h2
      split at h
      · rename_i hb
        obtain ⟨c1, c2⟩ := cells_of h2 (ev_ok hr x)
        have hlay := lay_get fo (a.eval x).cells.toList 0 cells
        simp only [Nat.add_zero] at hlay
        obtain ⟨l1, l2⟩ := hlay
        have hfold : (a.eval x).cells.zipIdx.foldl (fun cs (c, j) => cs.setIfInBounds (fo + j) c) cells = ((a.eval x).cells.toList.zipIdx 0).foldl (fun cs p => cs.setIfInBounds (fo + p.2) p.1) cells := by
          rw [← Array.foldl_toList]
          simp [Array.toList_zipIdx]
        have hb' : fo + ks.length ≤ ls.length := by omega
        obtain ⟨r, g1, g2, g3⟩ := partsPut_fill hr hpl l (put ls fo ks) (((a.eval x).cells.toList.zipIdx 0).foldl (fun cs p => cs.setIfInBounds (fo + p.2) p.1) cells) out h (by rw [l1, put_length _ _ _ hb', hn]) (fun j hj v hv => by
          rw [put_length _ _ _ hb'] at hj
          rw [l2] at hv
          simp only [Array.length_toList] at hv
          by_cases hin : fo ≤ j ∧ j < fo + ks.length
          · rw [if_pos (by omega)] at hv
            have := put_in ls fo ks hb' (j - fo) (by omega) (by rw [put_length _ _ _ hb']; omega)
            have he : (put ls fo ks)[j]'(by rw [put_length _ _ _ hb']; exact hj) = ks[j - fo]'(by omega) := by
              rw [← this]
              congr 1
              omega
            rw [he]
            exact c2 (j - fo) (by omega) v (by simpa using hv)
          · rw [if_neg (by omega)] at hv
            rw [put_out ls fo ks hb' j hj (by omega)]
            exact hc j hj v hv)
        refine ⟨r, ?_, g2, g3⟩
        have hcond : ¬ ((decide ((a.eval x).cells.size ≠ n) || decide (fo + (a.eval x).cells.size > cells.size)) = true) := by
          simp
          omega
        simp only [List.map_cons]
        unfold Instr.fill
        rw [hpl i, h1]
        simp only
        rw [if_neg hcond, hfold]
        exact g1
      · cases h
    · cases h

theorem places_run {tab : Tab} (htab : TabOk P tab) : ∀ (fields : List Field) (ps : List (Nat × Nat)), places tab (fields.map fun f => (f.type, f.offset)) = some ps → fields.mapM (fun f => (P.info? f.type).map fun i => (f.offset, i.size)) = some ps
  | [], ps, h => by cases h; rfl
  | f :: r, ps, h => by
    simp only [List.map_cons, places] at h
    split at h
    · rename_i et ps' h1 h2
      cases h
      obtain ⟨i, z, hi, hs, _⟩ := (htab _ (look_mem h1)).info
      simp only at hi
      simp [List.mapM_cons, hi, hs, places_run htab r ps' h2]
    · cases h

theorem does_build {tab : Tab} (htab : TabOk P tab) {t : Nat} {e : TE} {fs ps : List (Nat × Nat)} {parts : Array (Nat × Operand)} {ls : List LV} (ht : OkT P t e) (hs : e.sh = .struct fs) (hps : places tab fs = some ps) (hp : partsPut s.T ps (e.zero.map cellLV) parts.toList = some ls) :
    Does P (.build t parts) s ⟨True, .ag ls, s.H, s.nx⟩ := by
  refine .quiet rfl rfl fun w0 W0 c a w hr _ => ?_
  obtain ⟨i, z, hi, h1, h2, h3, h4⟩ := ht.info
  obtain ⟨d, hd, hsh⟩ := ht.und
  rw [hs] at hsh
  cases d <;> simp [shapeOf] at hsh
  rename_i fields
  have hpl := places_run htab fields.toList ps (by rw [hsh]; exact hps)
  obtain ⟨r, g1, g2, g3⟩ := partsPut_fill hr (place := (ps.toArray[·]?)) (fun i => by simp) parts.toList (e.zero.map cellLV) z.cells ls hp (by rw [← Array.length_toList, h4]; simp) (fun j hj v hv => by
    have : e.zero[j]? = some v := by rw [← h4]; simpa using hv
    simp only [List.getElem_map]
    have hj' : j < e.zero.length := by simpa using hj
    rw [List.getElem?_eq_getElem hj'] at this
    cases this
    exact cell_ok _ _ _)
  refine ⟨.agg r, fun o ho => ?_, .ag (fun j => r.getD j undef) g2 (fun j hj => ?_) fun j hj => ?_⟩
  · unfold execOp
    rw [ho]
    have hb : P.built t (parts.map fun (i, x) => (i, a.eval x)).toList = some r := by
      unfold Program.built
      rw [hi, hd]
      simp only [h3, hpl]
      simpa using g1
    simp only [Sem.run_bind, run_build w t _ r hb, Result.andThen_ok, Sem.run_pure]
  · have : j < r.size := by omega
    simp [this]
  · have : j < r.size := by omega
    refine g3 j hj _ (by simp [this])
end
end Go.TL

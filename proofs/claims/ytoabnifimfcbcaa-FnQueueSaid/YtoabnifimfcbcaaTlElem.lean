/- Elements: their addresses, loads, stores; lengths. -/
import Derived.Test.YtoabnifimfcbcaaTlStore
set_option linter.unusedSimpArgs false
set_option linter.unusedVariables false
namespace Go.TL
open Go

def leaf? : LV → Option (Bool × Leaf)
  | .lf t l => some (t, l)
  | .nl => some (false, .sl [])
  | _ => none

theorem Ctx.fs_or {c : Ctx} {t u : Bool} {b k : Nat} (h : c.fs t b k) : c.fs (t || u) b k ∧ c.fs (u || t) b k := by
  rcases h with h | ⟨rfl, h⟩
  · exact ⟨.inl h, .inl h⟩
  · exact ⟨.inr ⟨by simp, h⟩, .inr ⟨by simp, h⟩⟩

theorem RepL.sub {w : World} {S S' : CellSet} {v : Value} {l : Leaf} (h : RepL w S v l) (hs : ∀ b k, S b k → S' b k) : RepL w S' v l := h.mono hs fun _ _ _ => rfl

theorem leaf_of {w : World} {c : Ctx} {lv : LV} {t : Bool} {l : Leaf} {v : Value} (h : leaf? lv = some (t, l)) (hc : Cv w c lv v) : RepL w (c.fs t) v l := by
  unfold leaf? at h
  split at h
  · cases h; cases hc with
    | lf h => exact h
  · cases h; cases hc with
    | nl a => exact .nil
  · cases h

/-- Cells as leaves, and whether one of them hangs on what was handed in. -/
def leaves? : List LV → Option (Bool × List Leaf)
  | [] => some (false, [])
  | lv :: r => match leaf? lv, leaves? r with
    | some (t, l), some (u, ls) => some (t || u, l :: ls)
    | _, _ => none

theorem leaves_of {w : World} {c : Ctx} : ∀ {ks : List LV} {t : Bool} {ls : List Leaf} (_ : leaves? ks = some (t, ls)), ls.length = ks.length ∧
    ∀ j (hj : j < ks.length) (hj' : j < ls.length) v, Cv w c (ks[j]) v → RepL w (c.fs t) v (ls[j])
  | [], t, ls, h => by cases h; exact ⟨rfl, fun j hj => by simp at hj⟩
  | lv :: r, t, ls, h => by
    unfold leaves? at h
    split at h
    · rename_i t1 l u ls' h1 h2
      cases h
      obtain ⟨hn, ih⟩ := leaves_of (w := w) (c := c) h2
      refine ⟨by simp [hn], fun j hj hj' v hv => ?_⟩
      cases j with
      | zero => exact (leaf_of h1 hv).sub fun b k x => (Ctx.fs_or x).1
      | succ j => exact (ih j (by simpa using hj) (by simpa using hj') v hv).sub fun b k x => (Ctx.fs_or x).2
    · cases h

theorem leaves_flat : ∀ {ks : List LV} {t : Bool} {ls : List Leaf}, leaves? ks = some (t, ls) → ks.all flat = true
  | [], _, _, _ => rfl
  | lv :: r, t, ls, h => by
    unfold leaves? at h
    split at h
    · rename_i t1 l u ls' h1 h2
      have := leaves_flat h2
      simp only [List.all_cons, this, Bool.and_true]
      unfold leaf? at h1
      split at h1 <;> first | rfl | cases h1
    · cases h

section
variable {P : Program} {s : St}

theorem OkT.slice {t : Nat} {e : TE} {el : Nat} (h : OkT P t e) (hs : e.sh = .slice el) : P.underlying t = some (.slice el) := by
  obtain ⟨d, hd, hsh⟩ := h.und
  rw [hs] at hsh
  cases d <;> simp [shapeOf] at hsh
  subst hsh
  exact hd

/-- A slice's elements in frozen memory. -/
theorem rep_row {w : World} {S : CellSet} {v : Value} {rows : List (List Leaf)} {row : List Leaf} {i : Nat} (h : RepL w S v (.sl rows)) (hi : rows[i]? = some row) :
    ∃ b off cap, v = .slice (some ⟨b, off, none⟩) rows.length cap ∧ ∃ cs : Nat → Value, (∀ j, j < row.length → S b (off + i * row.length + j) ∧ w.cell? ⟨b, off + i * row.length + j, none⟩ = some (cs j)) ∧
      ∀ j (hj : j < row.length), RepL w S (cs j) (row[j]) := by
  have hlt : i < rows.length := by
    rcases Nat.lt_or_ge i rows.length with h1 | h1
    · exact h1
    · rw [List.getElem?_eq_none h1] at hi; cases hi
  rw [List.getElem?_eq_getElem hlt] at hi
  cases hi
  generalize hl : Leaf.sl rows = l at h
  cases h with
  | sc h => cases hl
  | nil => cases hl; simp at hlt
  | sl cs hes hcap hS hr =>
    cases hl
    rename_i b off cap es
    have he : (rows[i]).length = es := hes _ (List.getElem_mem hlt)
    refine ⟨b, off, cap, rfl, cs i, fun j hj => ?_, fun j hj => hr i j hlt hj⟩
    rw [he] at hj ⊢
    rw [Nat.add_assoc]
    exact hS i j hlt hj

theorem does_indexAddr_lf {t el : Nat} {e ee : TE} {x y : Operand} {tt : Bool} {rows : List (List Leaf)} {k : IntKind} {n : Int} {row : List Leaf} (h : OkT P t e) (hs : e.sh = .slice el) (he : OkT P el ee)
    (hx : ev s.T x = .lf tt (.sl rows)) (hy : sc? (ev s.T y) = some (.int k n)) : Does P (.indexAddr t x y) s ⟨0 ≤ n ∧ rows[n.toNat]? = some row ∧ row.length = ee.size, .ra tt row, s.H, s.nx⟩ := by
  refine .quiet rfl rfl fun w0 W0 c a w hr ⟨h0, hrow, hlen⟩ => ?_
  have hx' := ev_ok hr x
  rw [hx] at hx'
  have hy' := (sc_of hy (ev_ok hr y)).1
  generalize hxv : a.eval x = xv at hx'
  cases hx' with
  | lf hrep =>
    obtain ⟨b, off, cap, rfl, cs, hS, hrp⟩ := rep_row hrep hrow
    have hlt : n.toNat < rows.length := by
      rcases Nat.lt_or_ge n.toNat rows.length with h1 | h1
      · exact h1
      · rw [List.getElem?_eq_none h1] at hrow; cases hrow
    refine ⟨.pointer (some ⟨b, off + n.toNat * row.length, none⟩), fun o ho => ?_, .ra cs hS hrp⟩
    unfold execOp
    rw [ho]
    have hin : 0 ≤ n ∧ n < (rows.length : Int) := ⟨h0, by omega⟩
    simp only [hxv, hy', Instr.indexAt, asIntOf, Sem.run_bind, Sem.run_pure, Result.andThen_ok, run_und (h.slice hs), hin, and_self, if_true, Sem.run_ite, he.runSize, add_none, hlen]

theorem does_indexAddr_os {t el : Nat} {e ee : TE} {x y : Operand} {id es lo len mc : Nat} {ex : Bool} {k : IntKind} {n : Int} (h : OkT P t e) (hs : e.sh = .slice el) (he : OkT P el ee) (hes : ee.size = es)
    (hx : ev s.T x = .os id es lo len mc ex) (hy : sc? (ev s.T y) = some (.int k n)) : Does P (.indexAddr t x y) s ⟨0 ≤ n ∧ n < len, .pe id es (lo + n.toNat) 0, s.H, s.nx⟩ := by
  refine .quiet rfl rfl fun w0 W0 c a w hr ⟨h0, hlt⟩ => ?_
  have hx' := ev_ok hr x
  rw [hx] at hx'
  have hy' := (sc_of hy (ev_ok hr y)).1
  generalize hxv : a.eval x = xv at hx'
  cases hx' with
  | os hid hl hm hxx ha hn =>
    rcases ha with h1 | rfl
    · omega
    refine ⟨.pointer (some ⟨(c.loc id).b, (c.loc id).base + lo * es + n.toNat * es, none⟩), fun o ho => ?_, ?_⟩
    · unfold execOp
      rw [ho]
      have hin : 0 ≤ n ∧ n < (len : Int) := ⟨h0, hlt⟩
      simp only [hxv, hy', Instr.indexAt, asIntOf, Sem.run_bind, Sem.run_pure, Result.andThen_ok, run_und (h.slice hs), hin, and_self, if_true, Sem.run_ite, he.runSize, add_none, hes]
    · have := @Cv.pe w c id es (lo + n.toNat) 0 hid
      rw [show (c.loc id).base + ((lo + n.toNat) * es + 0) = (c.loc id).base + lo * es + n.toNat * es by rw [Nat.add_mul]; omega] at this
      exact this

/-- A load out of an element of an own row. -/
theorem does_load_pe {t : Nat} {e : TE} {x : Operand} {id es i off : Nat} {fr tt : Bool} {rows : List (List Leaf)} {row : List Leaf} (h : OkT P t e) (hk : e.sh.known = true) (hx : ev s.T x = .pe id es i off) (ho : hp s.H id = some (fr, .arr tt es rows))
    (h1 : e.sh.agg = false → 0 < e.size) : Does P (.load t x) s ⟨rows[i]? = some row ∧ off + e.size ≤ row.length, gath e.sh.agg (((row.drop off).take e.size).map (mk tt)), s.H, s.nx⟩ := by
  refine .quiet rfl rfl fun w0 W0 c a w hr ⟨hrow, hb⟩ => ?_
  have hx' := ev_ok hr x
  rw [hx] at hx'
  generalize hv : a.eval x = v at hx'
  cases hx' with
  | pe hid =>
    obtain ⟨g1, g0, g2, g3⟩ : Holds w c (c.loc id) (.arr tt es rows) := (hr.sit.own id _ ho).2
    have hlt : i < rows.length := by
      rcases Nat.lt_or_ge i rows.length with h1 | h1
      · exact h1
      · rw [List.getElem?_eq_none h1] at hrow; cases hrow
    rw [List.getElem?_eq_getElem hlt] at hrow
    cases hrow
    have hes : (rows[i]).length = es := g0 _ (List.getElem_mem hlt)
    have hcell : ∀ j, j < e.size → w.cell? ⟨(c.loc id).b, (c.loc id).base + (i * es + off) + j, none⟩ = some ((w.cell? ⟨(c.loc id).b, (c.loc id).base + (i * es + off) + j, none⟩).getD undef) := by
      intro j hj
      have := row_lt (es := es) (j := off + j) hlt (by omega)
      obtain ⟨u, hu, _⟩ := g2 (i * es + (off + j)) (by omega)
      rw [show (c.loc id).base + (i * es + (off + j)) = (c.loc id).base + (i * es + off) + j by omega] at hu
      rw [hu]; rfl
    refine ⟨if e.sh.agg then .agg ((List.range e.size).map fun j => (w.cell? ⟨(c.loc id).b, (c.loc id).base + (i * es + off) + j, none⟩).getD undef).toArray else (w.cell? ⟨(c.loc id).b, (c.loc id).base + (i * es + off) + 0, none⟩).getD undef, fun o ho => ?_, ?_⟩
    · unfold execOp
      rw [ho]
      simp only [hv, Instr.loadAt, Instr.sureAddr, Sem.run_bind, Sem.run_pure, Result.andThen_ok]
      rw [run_loadVar h hk e.size rfl h1 hcell]
      rfl
    · have hlen : ((((rows[i]).drop off).take e.size).map (mk tt)).length = e.size := by simp; omega
      have := gath_ok (agg := e.sh.agg) (ls := (((rows[i]).drop off).take e.size).map (mk tt)) (w := w) (c := c) (cs := fun j => (w.cell? ⟨(c.loc id).b, (c.loc id).base + (i * es + off) + j, none⟩).getD undef) (fun j hj => by
        rw [hlen] at hj
        simp only [List.getElem_map, List.getElem_take, List.getElem_drop]
        refine mk_ok (g3 i (off + j) hlt (by omega) _ ?_)
        rw [show (c.loc id).base + (i * es + (off + j)) = (c.loc id).base + (i * es + off) + j by omega]
        exact hcell j hj) (by rw [hlen]; exact h1)
      rw [hlen] at this
      exact this

theorem set_row {rows : List (List Leaf)} {i : Nat} {r : List Leaf} {es : Nat} (h0 : ∀ r ∈ rows, r.length = es) (hr : r.length = es) : ∀ x ∈ rows.set i r, x.length = es := by
  intro x hx
  rcases List.mem_or_eq_of_mem_set hx with h | h
  · exact h0 x h
  · rw [h]; exact hr

/-- A store into an element of an own row. -/
theorem does_store_pe {t : Nat} {e : TE} {x y : Operand} {id es i off : Nat} {fr tt tu : Bool} {rows : List (List Leaf)} {row : List Leaf} {ks : List LV} {ls : List Leaf} (h : OkT P t e) (hx : ev s.T x = .pe id es i off)
    (ho : hp s.H id = some (fr, .arr tt es rows)) (hy : cellsOf? (ev s.T y) = some ks) (hl : leaves? ks = some (tu, ls)) (hk : ks.length = e.size) :
    Does P (.store t x y) s ⟨rows[i]? = some row ∧ off + e.size ≤ row.length, .un, (id, some (fr, .arr (tt || tu) es (rows.set i (put row off ls)))) :: s.H, s.nx⟩ := by
  intro w0 W0 c a w hr ⟨hrow, hb⟩
  have hx' := ev_ok hr x
  rw [hx] at hx'
  have hy' := ev_ok hr y
  obtain ⟨hn, hv⟩ := cells_of hy hy'
  obtain ⟨hll, hlv⟩ := leaves_of (w := w) (c := c) hl
  have hf := leaves_flat hl
  generalize hxv : a.eval x = xv at hx'
  generalize hyv : a.eval y = yv at hn hv
  cases hx' with
  | pe hid =>
    obtain ⟨g1, g0, g2, g3⟩ : Holds w c (c.loc id) (.arr tt es rows) := (hr.sit.own id _ ho).2
    have hlt : i < rows.length := by
      rcases Nat.lt_or_ge i rows.length with h1 | h1
      · exact h1
      · rw [List.getElem?_eq_none h1] at hrow; cases hrow
    rw [List.getElem?_eq_getElem hlt] at hrow
    cases hrow
    have hes : (rows[i]).length = es := g0 _ (List.getElem_mem hlt)
    have hpl : (put (rows[i]) off ls).length = es := by rw [put_length _ _ _ (by omega)]; exact hes
    have hlen : yv.cells.toList.length = e.size := by simp [hn, hk]
    have hin : ∀ j, j < e.size → i * es + off + j < (c.loc id).n := fun j hj => by
      have := row_lt (es := es) (j := off + j) hlt (by omega)
      omega
    have hthere : ∀ j, j < e.size → ∃ u, w.cell? ⟨(c.loc id).b, (c.loc id).base + (i * es + off) + j, none⟩ = some u ∧ w.frozen? ⟨(c.loc id).b, (c.loc id).base + (i * es + off) + j, none⟩ = false := by
      intro j hj
      obtain ⟨u, hu, hz⟩ := g2 (i * es + off + j) (hin j hj)
      rw [← Nat.add_assoc] at hu hz
      exact ⟨u, hu, hz⟩
    have hone : ∀ u ∈ yv.cells.toList, u.oneCell' = true := by
      intro u hu
      obtain ⟨j, hj, rfl⟩ := List.getElem_of_mem hu
      have hj2 : j < yv.cells.size := by simpa using hj
      exact (flat_one (by rw [List.all_eq_true] at hf; exact hf _ (List.getElem_mem (by omega))) (hv j (by omega) _ (by simp [hj2]))).1
    have hrun := run_storeVar (P := P) h (w := w) (b := (c.loc id).b) (o := (c.loc id).base + (i * es + off)) (v := yv) (by omega) hthere hone
    have hkeep := keep_setCells w (c.loc id).b ((c.loc id).base + (i * es + off)) yv.cells.toList
    have hcells : ∀ j (hj : j < e.size), (w.setCells (c.loc id).b ((c.loc id).base + (i * es + off)) yv.cells.toList).cell? ⟨(c.loc id).b, (c.loc id).base + (i * es + off) + j, none⟩ = yv.cells[j]? := by
      intro j hj
      rw [World.cell?_setCells_in (c.loc id).b yv.cells.toList _ w (fun i hi => by obtain ⟨u, hu, _⟩ := hthere i (by omega); simp [hu]) j (by omega)]
      have : j < yv.cells.size := by omega
      simp [this]
    have hsub : ∀ b j, b < w.heap.size → (b = (c.loc id).b ∧ (c.loc id).base + (i * es + off) ≤ j ∧ j < (c.loc id).base + (i * es + off) + yv.cells.toList.length) → inR (c.loc id) b j := by
      rintro b j _ ⟨rfl, h1, h2⟩
      have := hin (j - ((c.loc id).base + (i * es + off))) (by omega)
      exact ⟨rfl, by omega, by omega⟩
    have hsame := hr.sit.same hkeep fun b j hb d => ⟨id, _, ho, hsub b j hb d⟩
    obtain ⟨hsit, _⟩ := hr.sit.upd (o' := .arr (tt || tu) es (rows.set i (put (rows[i]) off ls))) hkeep ho hsub (by
      refine ⟨by rw [List.length_set]; exact g1, set_row g0 hpl, fun j hj => ?_, fun p q hp hq u hu => ?_⟩
      · by_cases hin' : i * es + off ≤ j ∧ j < i * es + off + e.size
        · have := hcells (j - (i * es + off)) (by omega)
          rw [show (c.loc id).base + (i * es + off) + (j - (i * es + off)) = (c.loc id).base + j by omega] at this
          have hlt : j - (i * es + off) < yv.cells.size := by omega
          refine ⟨yv.cells[j - (i * es + off)], by rw [this]; simp [hlt], ?_⟩
          rw [World.frozen?_setCells]
          exact (g2 j hj).elim fun _ h => h.2
        · obtain ⟨u, hu, hz⟩ := g2 j hj
          refine ⟨u, ?_, by rw [World.frozen?_setCells]; exact hz⟩
          rw [World.cell?_setCells_out _ _ _ _ _ (fun _ _ => by simp only; omega)]
          exact hu
      · have hp2 : p < rows.length := by simpa using hp
        have hq' : q < es := by rw [← set_row g0 hpl _ (List.getElem_mem (by simpa using hp))]; exact hq
        by_cases hpi : p = i
        · subst hpi
          have hget : (rows.set p (put (rows[p]) off ls))[p]'(by simpa using hp) = put (rows[p]) off ls := by simp
          have hq2 : q < (put (rows[p]) off ls).length := by rw [hpl]; exact hq'
          have e1 : ((rows.set p (put (rows[p]) off ls))[p]'(by simpa using hp))[q]'hq = (put (rows[p]) off ls)[q]'hq2 := by
            apply Option.some.inj
            rw [← List.getElem?_eq_getElem, ← List.getElem?_eq_getElem, hget]
          rw [e1]
          by_cases hin' : off ≤ q ∧ q < off + e.size
          · have hc := hcells (q - off) (by omega)
            rw [show (c.loc id).base + (p * es + off) + (q - off) = (c.loc id).base + (p * es + q) by omega] at hc
            rw [hc] at hu
            have he : (put (rows[p]) off ls)[q]'hq2 = ls[q - off]'(by omega) := by
              have := put_in (rows[p]) off ls (by omega) (q - off) (by omega) (by rw [put_length _ _ _ (by omega)]; omega)
              simpa [show off + (q - off) = q by omega] using this
            rw [he]
            exact (hlv (q - off) (by omega) (by omega) u (hv (q - off) (by omega) u hu)).mono (fun b k x => (Ctx.fs_or x).2) (fun b k x => hsame.fs _ b k x)
          · rw [World.cell?_setCells_out _ _ _ _ _ (fun _ _ => by simp only; omega)] at hu
            rw [put_out (rows[p]) off ls (by omega) q (by omega) (by omega)]
            exact (g3 p q hp2 (by omega) u hu).mono (fun b k x => (Ctx.fs_or x).1) (fun b k x => hsame.fs _ b k x)
        · have e1 : ((rows.set i (put (rows[i]) off ls))[p]'(by simpa using hp))[q]'hq = (rows[p])[q]'(by rw [g0 _ (List.getElem_mem hp2)]; exact hq') := by
            apply Option.some.inj
            rw [← List.getElem?_eq_getElem, ← List.getElem?_eq_getElem, List.getElem_set_ne (Ne.symm hpi)]
          rw [e1]
          have hne : ¬ (i * es + off ≤ p * es + q ∧ p * es + q < i * es + off + e.size) := by
            rintro ⟨h1, h2⟩
            rcases Nat.lt_or_gt_of_ne hpi with h3 | h3
            · have : (p + 1) * es ≤ i * es := Nat.mul_le_mul_right es h3
              rw [Nat.add_mul] at this; omega
            · have : (i + 1) * es ≤ p * es := Nat.mul_le_mul_right es h3
              rw [Nat.add_mul] at this; omega
          rw [World.cell?_setCells_out _ _ _ _ _ (fun _ _ => by simp only; omega)] at hu
          exact (g3 p q hp2 (by rw [g0 _ (List.getElem_mem hp2)]; exact hq') u hu).mono (fun b k x => (Ctx.fs_or x).1) (fun b k x => hsame.fs _ b k x))
    refine ⟨.skip, _, c, undef, fun o ho' => ?_, .inr ⟨rfl, rfl⟩, .refl c, hr.nx, ?_, hsame, .un _⟩
    · unfold execOp
      rw [ho']
      simp only [hxv, hyv, Instr.storeAt, Instr.sureAddr, Sem.run_bind, Sem.run_pure, Result.andThen_ok]
      rw [hrun]
      rfl
    · show Sit w0 W0 c (hp ((id, _) :: s.H)) _
      rw [hp_cons]
      exact hsit
end
end Go.TL

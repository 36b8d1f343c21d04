/- Stores; addresses of fields and elements; fields; lengths. -/
import Derived.Test.YtoabnifimfcbcaaTlMem
set_option linter.unusedSimpArgs false
set_option linter.unusedVariables false
namespace Go.TL
open Go

theorem keep_setCells (w : World) (b o : Nat) (vs : List Value) : Keep (fun x k => x = b ∧ o ≤ k ∧ k < o + vs.length) w (w.setCells b o vs) := by
  induction vs generalizing o w with
  | nil => exact Keep.refl _ _
  | cons v r ih =>
    have h1 : Keep (fun x k => x = b ∧ k = o) w (w.setCell ⟨b, o, none⟩ v) := by
      refine ⟨rfl, rfl, rfl, by simp, fun x k _ hd => World.cell?_setCell_other _ _ _ _ fun e => hd ?_, fun x k _ _ => World.frozen?_setCell _ _ _ _, fun x _ hd => Go.RowKit.Below.heap_setCell w _ v x fun e => hd o ⟨e, rfl⟩⟩
      cases e
      exact ⟨rfl, rfl⟩
    have h2 := ih (w.setCell ⟨b, o, none⟩ v) (o + 1)
    refine (h1.mono (E := fun x k => x = b ∧ o ≤ k ∧ k < o + (v :: r).length) fun x y _ ⟨e1, e2⟩ => ⟨e1, by simp; omega⟩).trans h2 fun x y _ ⟨e1, e2, e3⟩ => ⟨e1, by omega, by simp; omega⟩

/-- The list, with vs in place from off on. -/
def put {α : Type} (ls : List α) (off : Nat) (vs : List α) : List α := ls.take off ++ vs ++ ls.drop (off + vs.length)

theorem put_length {α : Type} (ls : List α) (off : Nat) (vs : List α) (h : off + vs.length ≤ ls.length) : (put ls off vs).length = ls.length := by
  simp [put]; omega

theorem put_get {α : Type} (ls : List α) (off : Nat) (vs : List α) (h : off + vs.length ≤ ls.length) (j : Nat) :
    (put ls off vs)[j]? = if off ≤ j ∧ j < off + vs.length then vs[j - off]? else ls[j]? := by
  unfold put
  rw [List.append_assoc, List.getElem?_append]
  have ht : (ls.take off).length = off := by simp; omega
  rw [ht]
  by_cases h1 : j < off
  · rw [if_pos h1, if_neg (by omega), List.getElem?_take_of_lt h1]
  · rw [if_neg h1, List.getElem?_append]
    by_cases h2 : j < off + vs.length
    · rw [if_pos (by omega), if_pos (by omega)]
    · rw [if_neg (by omega), if_neg (by omega), List.getElem?_drop]
      congr 1
      omega

theorem put_in {α : Type} (ls : List α) (off : Nat) (vs : List α) (h : off + vs.length ≤ ls.length) (j : Nat) (hj : j < vs.length) (hj' : off + j < (put ls off vs).length) : (put ls off vs)[off + j] = vs[j] := by
  apply Option.some.inj
  rw [← List.getElem?_eq_getElem, ← List.getElem?_eq_getElem, put_get _ _ _ h, if_pos (by omega)]
  congr 1
  omega

theorem put_out {α : Type} (ls : List α) (off : Nat) (vs : List α) (h : off + vs.length ≤ ls.length) (j : Nat) (hj : j < ls.length) (ho : j < off ∨ off + vs.length ≤ j) (hj' : j < (put ls off vs).length) : (put ls off vs)[j] = ls[j] := by
  apply Option.some.inj
  rw [← List.getElem?_eq_getElem, ← List.getElem?_eq_getElem, put_get _ _ _ h, if_neg (by omega)]

section
variable {P : Program} {s : St}

theorem run_storeVar {t : Nat} {e : TE} (h : OkT P t e) {w : World} {b o : Nat} {v : Value} (hn : v.cells.size = e.size) (hc : ∀ j, j < e.size → ∃ u, w.cell? ⟨b, o + j, none⟩ = some u ∧ w.frozen? ⟨b, o + j, none⟩ = false)
    (h1 : ∀ u ∈ v.cells.toList, u.oneCell' = true) : (storeVar t ⟨b, o, none⟩ v).run P w = .ok () (w.setCells b o v.cells.toList) := by
  unfold storeVar
  simp only [Sem.run_bind, h.runSize, Result.andThen_ok, hn, ne_eq, not_true_eq_false, if_false, Sem.run_ite, Sem.run_pure]
  have hl : v.cells.toList.length = e.size := by simpa using hn
  rw [run_storeCells_cells b o v.cells.toList 0 w (fun j hj => by obtain ⟨u, hu, _⟩ := hc j (by omega); simp [hu]) (fun j hj => by obtain ⟨u, _, hf⟩ := hc j (by omega); simpa using hf) h1]
  rfl

/-- A store into a box. -/
theorem does_store_pb {t : Nat} {e : TE} {x y : Operand} {id off : Nat} {fr : Bool} {ls ks : List LV} (h : OkT P t e) (hx : ev s.T x = .pb id off) (ho : hp s.H id = some (fr, .box ls))
    (hy : cellsOf? (ev s.T y) = some ks) (hf : ks.all flat = true) (hk : ks.length = e.size) (hb : off + e.size ≤ ls.length) :
    Does P (.store t x y) s ⟨True, .un, (id, some (fr, .box (put ls off ks))) :: s.H, s.nx⟩ := by
  intro w0 W0 c a w hr _
  have hx' := ev_ok hr x
  rw [hx] at hx'
  have hy' := ev_ok hr y
  obtain ⟨hn, hv⟩ := cells_of hy hy'
  generalize hxv : a.eval x = xv at hx'
  generalize hyv : a.eval y = yv at hn hv
  cases hx' with
  | pb hid =>
    obtain ⟨g1, g2, g3⟩ : Holds w c (c.loc id) (.box ls) := (hr.sit.own id _ ho).2
    have hlen : yv.cells.toList.length = e.size := by simp [hn, hk]
    have hthere : ∀ j, j < e.size → ∃ u, w.cell? ⟨(c.loc id).b, (c.loc id).base + off + j, none⟩ = some u ∧ w.frozen? ⟨(c.loc id).b, (c.loc id).base + off + j, none⟩ = false := by
      intro j hj
      obtain ⟨u, hu, hz⟩ := g2 (off + j) (by omega)
      rw [← Nat.add_assoc] at hu hz
      exact ⟨u, hu, hz⟩
    have hflat : ∀ j (hj : j < ks.length) u, yv.cells[j]? = some u → u.oneCell' = true := by
      intro j hj u hu
      exact (flat_one (by rw [List.all_eq_true] at hf; exact hf _ (List.getElem_mem hj)) (hv j hj u hu)).1
    have hone : ∀ u ∈ yv.cells.toList, u.oneCell' = true := by
      intro u hu
      obtain ⟨j, hj, rfl⟩ := List.getElem_of_mem hu
      refine hflat j (by omega) _ ?_
      have : j < yv.cells.size := by simpa using hj
      simp [this]
    have hrun := run_storeVar (P := P) h (w := w) (b := (c.loc id).b) (o := (c.loc id).base + off) (v := yv) (by omega) hthere hone
    have hkeep := keep_setCells w (c.loc id).b ((c.loc id).base + off) yv.cells.toList
    have hcells : ∀ j (hj : j < e.size), (w.setCells (c.loc id).b ((c.loc id).base + off) yv.cells.toList).cell? ⟨(c.loc id).b, (c.loc id).base + off + j, none⟩ = yv.cells[j]? := by
      intro j hj
      rw [World.cell?_setCells_in (c.loc id).b yv.cells.toList _ w (fun i hi => by obtain ⟨u, hu, _⟩ := hthere i (by omega); simp [hu]) j (by omega)]
      have : j < yv.cells.size := by omega
      simp [this]
    have hsub : ∀ b j, b < w.heap.size → (b = (c.loc id).b ∧ (c.loc id).base + off ≤ j ∧ j < (c.loc id).base + off + yv.cells.toList.length) → inR (c.loc id) b j := by
      rintro b j _ ⟨rfl, h1, h2⟩
      exact ⟨rfl, by omega, by omega⟩
    have hsame := hr.sit.same hkeep fun b j hb d => ⟨id, _, ho, hsub b j hb d⟩
    obtain ⟨hsit, _⟩ := hr.sit.upd (o' := .box (put ls off ks)) hkeep ho hsub (by
      refine ⟨by rw [put_length _ _ _ (by omega)]; exact g1, fun j hj => ?_, fun j hj u hu => ?_⟩
      · by_cases hin : off ≤ j ∧ j < off + e.size
        · have := hcells (j - off) (by omega)
          rw [show (c.loc id).base + off + (j - off) = (c.loc id).base + j by omega] at this
          have hlt : j - off < yv.cells.size := by omega
          refine ⟨yv.cells[j - off], by rw [this]; simp [hlt], ?_⟩
          rw [World.frozen?_setCells]
          exact (g2 j hj).elim fun _ h => h.2
        · obtain ⟨u, hu, hz⟩ := g2 j hj
          refine ⟨u, ?_, by rw [World.frozen?_setCells]; exact hz⟩
          rw [World.cell?_setCells_out _ _ _ _ _ (fun _ _ => by simp only; omega)]
          exact hu
      · rw [put_length _ _ _ (by omega)] at hj
        by_cases hin : off ≤ j ∧ j < off + e.size
        · have hc := hcells (j - off) (by omega)
          rw [show (c.loc id).base + off + (j - off) = (c.loc id).base + j by omega] at hc
          rw [hc] at hu
          have he : (put ls off ks)[j]'(by rw [put_length _ _ _ (by omega)]; exact hj) = ks[j - off]'(by omega) := by
            have := put_in ls off ks (by omega) (j - off) (by omega) (by rw [put_length _ _ _ (by omega)]; omega)
            simpa [show off + (j - off) = j by omega] using this
          rw [he]
          exact (hv (j - off) (by omega) u hu).mono (.refl c) hsame
        · rw [World.cell?_setCells_out _ _ _ _ _ (fun _ _ => by simp only; omega)] at hu
          rw [put_out ls off ks (by omega) j hj (by omega)]
          exact (g3 j hj u hu).mono (.refl c) hsame)
    refine ⟨.skip, _, c, undef, fun o ho' => ?_, .inr ⟨rfl, rfl⟩, .refl c, hr.nx, ?_, hsame, .un _⟩
    · unfold execOp
      rw [ho']
      simp only [hxv, hyv, Instr.storeAt, Instr.sureAddr, Sem.run_bind, Sem.run_pure, Result.andThen_ok]
      rw [hrun]
      rfl
    · show Sit w0 W0 c (hp ((id, _) :: s.H)) _
      rw [hp_cons]
      exact hsit

theorem OkT.field {t : Nat} {e : TE} {fs : List (Nat × Nat)} (h : OkT P t e) (hs : e.sh = .struct fs) {f ft fo : Nat} (hf : fs[f]? = some (ft, fo)) :
    ∃ (flds : Array Field) (fl : Field), P.underlying t = some (.struct flds) ∧ flds[f]? = some fl ∧ fl.type = ft ∧ fl.offset = fo := by
  obtain ⟨d, hd, hsh⟩ := h.und
  rw [hs] at hsh
  cases d <;> simp [shapeOf] at hsh
  rename_i flds
  refine ⟨flds, ?_⟩
  rw [← hsh, List.getElem?_map] at hf
  cases hq : flds.toList[f]? with
  | none => rw [hq] at hf; cases hf
  | some fl =>
    rw [hq] at hf
    simp only [Option.map_some, Option.some.injEq, Prod.mk.injEq] at hf
    exact ⟨fl, hd, by simpa using hq, hf.1, hf.2⟩

/-- An address moved by so many cells. -/
def moved : LV → Nat → Option LV
  | .pb id off, k => some (.pb id (off + k))
  | .pe id es i off, k => some (.pe id es i (off + k))
  | .ra t ls, k => some (.ra t (ls.drop k))
  | _, _ => none

theorem moved_ok {w : World} {c : Ctx} {lv lv' : LV} {v : Value} {k : Nat} (h : moved lv k = some lv') (hc : Cv w c lv v) : ∃ b o, v = .pointer (some ⟨b, o, none⟩) ∧ Cv w c lv' (.pointer (some ⟨b, o + k, none⟩)) := by
  unfold moved at h
  split at h <;> cases h
  · cases hc with
    | pb hid => exact ⟨_, _, rfl, by rw [Nat.add_assoc]; exact .pb hid⟩
  · cases hc with
    | pe hid => exact ⟨_, _, rfl, by rw [Nat.add_assoc, Nat.add_assoc]; exact .pe hid⟩
  · cases hc with
    | ra cs hS hr =>
      refine ⟨_, _, rfl, .ra (fun j => cs (k + j)) (fun j hj => ?_) fun j hj => ?_⟩
      · rw [Nat.add_assoc]
        exact hS (k + j) (by simp at hj; omega)
      · simp only [List.getElem_drop]
        exact hr (k + j) (by simp at hj; omega)

theorem does_fieldAddr {t : Nat} {e et : TE} {x : Operand} {fs : List (Nat × Nat)} {f ft fo : Nat} {lv : LV} (h : OkT P t e) (hs : e.sh = .struct fs) (hf : fs[f]? = some (ft, fo)) (ht : OkT P ft et) (hz : et.size ≠ 0)
    (hm : moved (ev s.T x) fo = some lv) : Does P (.fieldAddr t x f) s ⟨True, lv, s.H, s.nx⟩ := by
  refine .quiet rfl rfl fun w0 W0 c a w hr _ => ?_
  obtain ⟨b, o, hv, hc⟩ := moved_ok hm (ev_ok hr x)
  obtain ⟨flds, fl, hu, hfl, h1, h2⟩ := h.field hs hf
  refine ⟨_, fun o ho => ?_, hc⟩
  unfold execOp
  rw [ho]
  have hsz := ht.runSize w
  rw [← h1] at hsz
  simp only [hv, Instr.fieldAt, Sem.run_bind, run_und hu, Result.andThen_ok, hfl, Instr.sureAddr, Sem.run_pure, fieldPlace, hsz, hz, if_false, Sem.run_ite, add_none, h2]

theorem does_nilCheck {x : Operand} {lv : LV} (h : moved (ev s.T x) 0 = some lv) : Does P (.nilCheck x) s ⟨True, ev s.T x, s.H, s.nx⟩ := by
  refine .quiet rfl rfl fun w0 W0 c a w hr _ => ?_
  have hx := ev_ok hr x
  obtain ⟨b, o, hv, _⟩ := moved_ok h hx
  refine ⟨a.eval x, fun o ho => ?_, hx⟩
  unfold execOp
  rw [ho]
  simp only [hv]
  rfl
end
end Go.TL

/- append; slices made. -/
import Derived.Test.YtoabnifimfcbcaaTlCut
import Derived.Laws.AppendOwn
import Derived.Laws.MakeOwn
set_option linter.unusedSimpArgs false
set_option linter.unusedVariables false
namespace Go.TL
open Go

/-- The elements of a slice, and whether they hang on what was handed in. -/
def srcRows (H : Heap) : LV → Option (Bool × List (List Leaf))
  | .lf t (.sl rows) => some (t, rows)
  | .nl => some (false, [])
  | .os id es lo len _ _ => match H id with
    | some (_, .arr t es' rows) => if es' = es ∧ lo + len ≤ rows.length then some (t, (rows.drop lo).take len) else none
    | _ => none
  | _ => none

/-- Cells that stand for rows. -/
def CellsOf (w : World) (S : CellSet) (es : Nat) (cs : List Value) (rows : List (List Leaf)) : Prop :=
  cs.length = rows.length * es ∧ (∀ r ∈ rows, r.length = es) ∧ ∀ i j (hi : i < rows.length) (hj : j < (rows[i]).length) v, cs[i * es + j]? = some v → RepL w S v ((rows[i])[j])

theorem rep_one {w : World} {S : CellSet} {v : Value} {l : Leaf} (h : RepL w S v l) : v.oneCell' = true := by
  cases h with
  | sc h => revert h; cases v <;> simp [scal, Value.oneCell']
  | nil => rfl
  | sl => rfl

theorem CellsOf.one {w : World} {S : CellSet} {es : Nat} {cs : List Value} {rows : List (List Leaf)} (h : CellsOf w S es cs rows) : ∀ u ∈ cs, u.oneCell' = true := by
  intro u hu
  obtain ⟨k, hk, rfl⟩ := List.getElem_of_mem hu
  obtain ⟨h1, h2, h3⟩ := h
  rcases Nat.eq_zero_or_pos es with h0 | h0
  · rw [h0] at h1; simp at h1; rw [h1] at hk; simp at hk
  have hi : k / es < rows.length := by rw [Nat.div_lt_iff_lt_mul h0]; omega
  have hj : k % es < es := Nat.mod_lt _ h0
  have hj' : k % es < (rows[k / es]).length := by rw [h2 _ (List.getElem_mem hi)]; exact hj
  have he : k / es * es + k % es = k := by rw [Nat.mul_comm]; exact Nat.div_add_mod k es
  exact rep_one (h3 (k / es) (k % es) hi hj' _ (by rw [he]; simp [hk]))

theorem CellsOf.mono {w w' : World} {S S' : CellSet} {es : Nat} {cs : List Value} {rows : List (List Leaf)} (h : CellsOf w S es cs rows) (hs : ∀ b k, S b k → S' b k) (hc : ∀ b k, S b k → w'.cell? ⟨b, k, none⟩ = w.cell? ⟨b, k, none⟩) : CellsOf w' S' es cs rows :=
  ⟨h.1, h.2.1, fun i j hi hj v hv => (h.2.2 i j hi hj v hv).mono hs hc⟩

theorem CellsOf.append {w : World} {S : CellSet} {es : Nat} {cs ds : List Value} {rows qs : List (List Leaf)} (h : CellsOf w S es cs rows) (k : CellsOf w S es ds qs) : CellsOf w S es (cs ++ ds) (rows ++ qs) := by
  obtain ⟨h1, h2, h3⟩ := h
  obtain ⟨k1, k2, k3⟩ := k
  refine ⟨by rw [List.length_append, List.length_append, h1, k1, Nat.add_mul], fun r hr => ?_, fun i j hi hj v hv => ?_⟩
  · rw [List.mem_append] at hr
    rcases hr with hr | hr
    · exact h2 r hr
    · exact k2 r hr
  · by_cases hlt : i < rows.length
    · have hj' : j < (rows[i]).length := by rw [List.getElem_append_left hlt] at hj; exact hj
      have hje : j < es := by rw [← h2 _ (List.getElem_mem hlt)]; exact hj'
      have := row_lt hlt hje
      rw [List.getElem?_append_left (by omega)] at hv
      have := h3 i j hlt hj' v hv
      simpa [List.getElem_append_left hlt] using this
    · have hi' : i - rows.length < qs.length := by rw [List.length_append] at hi; omega
      have hj' : j < (qs[i - rows.length]).length := by rw [List.getElem_append_right (by omega)] at hj; exact hj
      have hle : rows.length * es ≤ i * es := Nat.mul_le_mul_right es (by omega)
      rw [List.getElem?_append_right (by omega), show i * es + j - cs.length = (i - rows.length) * es + j by rw [h1, Nat.sub_mul]; omega] at hv
      have := k3 (i - rows.length) j hi' hj' v hv
      simpa [List.getElem_append_right (show rows.length ≤ i by omega)] using this

theorem CellsOf.nil {w : World} {S : CellSet} {es : Nat} : CellsOf w S es [] [] := ⟨by simp, fun r hr => by simp at hr, fun i j hi => by simp at hi⟩

/-- An own row's cells. -/
theorem holds_cells {w : World} {c : Ctx} {L : Loc} {t : Bool} {es : Nat} {rows : List (List Leaf)} (h : Holds w c L (.arr t es rows)) {lo len : Nat} (hl : lo + len ≤ rows.length) :
    ∃ cs : List Value, CellsOf w (c.fs t) es cs ((rows.drop lo).take len) ∧ ∀ j v, cs[j]? = some v → w.cell? ⟨L.b, L.base + lo * es + j, none⟩ = some v := by
  obtain ⟨g1, g0, g2, g3⟩ := h
  have hN : lo * es + len * es ≤ L.n := by
    have := Nat.mul_le_mul_right es hl
    rw [Nat.add_mul] at this
    omega
  have hlen : ((rows.drop lo).take len).length = len := by simp; omega
  refine ⟨(List.range (len * es)).map fun j => (w.cell? ⟨L.b, L.base + lo * es + j, none⟩).getD undef, ⟨by simp [hlen], fun r hr => g0 r (List.mem_of_mem_drop (List.mem_of_mem_take hr)), fun i j hi hj v hv => ?_⟩, fun j v hv => ?_⟩
  · have hi' : lo + i < rows.length := by omega
    have hje : j < es := by rw [← g0 _ (List.getElem_mem hi')]; simpa using hj
    have hlt := row_lt (n := len) (i := i) (by omega) hje
    obtain ⟨u, hu, _⟩ := g2 (lo * es + (i * es + j)) (by omega)
    have h3 := g3 (lo + i) j hi' (by rw [g0 _ (List.getElem_mem hi')]; exact hje) u (by rw [Nat.add_mul, Nat.add_assoc]; exact hu)
    rw [← Nat.add_assoc] at hu
    have : some v = some u := by
      rw [← hv]
      simp [hlt, hu]
    cases this
    simp only [List.getElem_take, List.getElem_drop]
    exact h3
  · by_cases hlt : j < len * es
    · obtain ⟨u, hu, _⟩ := g2 (lo * es + j) (by omega)
      rw [← Nat.add_assoc] at hu
      have : some v = some u := by
        rw [← hv]
        simp [hlt, hu]
      cases this
      exact hu
    · rw [List.getElem?_eq_none (by simp; omega)] at hv
      cases hv

theorem src_ok {w0 w : World} {W0 : Fr} {c : Ctx} {H : Heap} (s : Sit w0 W0 c H w) {lv : LV} {v : Value} {t : Bool} {rows : List (List Leaf)} {es : Nat} (h : srcRows H lv = some (t, rows)) (hes : ∀ r ∈ rows, r.length = es) (hc : Cv w c lv v) :
    ∃ (a : Option Addr) (cap : Nat) (cs : List Value), v = .slice a rows.length cap ∧ rows.length ≤ cap ∧ CellsOf w (c.fs t) es cs rows ∧ (rows.length ≠ 0 → ∃ b o, a = some ⟨b, o, none⟩ ∧ ∀ j u, cs[j]? = some u → w.cell? ⟨b, o + j, none⟩ = some u) := by
  unfold srcRows at h
  split at h
  · cases h
    cases hc with
    | lf hr =>
      generalize hL : Leaf.sl rows = L at hr
      cases hr with
      | sc hs => cases hL
      | nil => cases hL; exact ⟨_, _, [], rfl, Nat.zero_le _, .nil, fun h => absurd rfl h⟩
      | sl cs hes' hcap hS hrp =>
        cases hL
        rename_i b off cap es'
        by_cases h0 : rows.length = 0
        · have : rows = [] := List.eq_nil_of_length_eq_zero h0
          subst this
          exact ⟨_, _, [], rfl, Nat.zero_le _, .nil, fun h => absurd rfl h⟩
        have hee : es' = es := by
          have h1 := hes (rows[0]) (List.getElem_mem (by omega))
          have h2 := hes' (rows[0]) (List.getElem_mem (by omega))
          omega
        subst hee
        refine ⟨_, _, (List.range (rows.length * es')).map fun k => cs (k / es') (k % es'), rfl, hcap, ⟨by simp, hes', fun i j hi hj u hu => ?_⟩, fun _ => ⟨b, off, rfl, fun k u hu => ?_⟩⟩
        · have hje : j < es' := by rw [← hes' _ (List.getElem_mem hi)]; exact hj
          have hlt := row_lt hi hje
          have e1 : (i * es' + j) / es' = i := by rw [Nat.mul_comm, Nat.mul_add_div (by omega), Nat.div_eq_of_lt hje, Nat.add_zero]
          have e2 : (i * es' + j) % es' = j := by rw [Nat.mul_comm, Nat.mul_add_mod, Nat.mod_eq_of_lt hje]
          simp only [List.getElem?_map, List.getElem?_range hlt, Option.map_some, e1, e2, Option.some.injEq] at hu
          rw [← hu]
          exact hrp i j hi hj
        · by_cases hlt : k < rows.length * es'
          · have hp : 0 < es' := by
              rcases Nat.eq_zero_or_pos es' with h | h
              · rw [h] at hlt; simp at hlt
              · exact h
            have hi : k / es' < rows.length := by rw [Nat.div_lt_iff_lt_mul hp]; exact hlt
            have hj := Nat.mod_lt k hp
            have := (hS (k / es') (k % es') hi hj).2
            rw [show k / es' * es' + k % es' = k by rw [Nat.mul_comm]; exact Nat.div_add_mod k es'] at this
            simp only [List.getElem?_map, List.getElem?_range hlt, Option.map_some, Option.some.injEq] at hu
            rw [← hu]
            exact this
          · rw [List.getElem?_eq_none (by simp; omega)] at hu
            cases hu
  · cases h
    cases hc with
    | nl a => exact ⟨a, 0, [], rfl, Nat.le_refl _, .nil, fun h => absurd rfl h⟩
  · rename_i id es0 lo len mc ex
    split at h
    · rename_i fr t' es' rows' ho
      split at h
      · rename_i hcond
        obtain ⟨rfl, hlen⟩ := hcond
        cases h
        cases hc with
        | os hid hl hm hx ha hn =>
          rename_i cap a
          have hl2 : ((rows'.drop lo).take len).length = len := by simp; omega
          have hH : Holds w c (c.loc id) (.arr t es' rows') := (s.own _ _ ho).2
          obtain ⟨cs, h1, h2⟩ := holds_cells hH hlen
          refine ⟨a, cap, cs, by rw [hl2], by rw [hl2]; exact hl, ?_, fun h0 => ?_⟩
          · by_cases hz : len = 0
            · subst hz
              rw [List.take_zero] at h1 ⊢
              have : cs = [] := List.eq_nil_of_length_eq_zero (by rw [h1.1]; simp)
              subst this
              exact .nil
            · have : es' = es := by
                rw [← hes _ (List.getElem_mem (show 0 < ((rows'.drop lo).take len).length by omega)), ← h1.2.1 _ (List.getElem_mem (show 0 < ((rows'.drop lo).take len).length by omega))]
              rw [← this]
              exact h1
          · rw [hl2] at h0
            rcases ha with h3 | rfl
            · omega
            · exact ⟨_, _, rfl, h2⟩
      · cases h
    · cases h
  · cases h

section
variable {P : Program} {s : St}

/-- append, at whatever slices; what is appended is read first. -/
theorem run_append_room' {t u ty el : Nat} {i : TypeInfo} {el2 : Nat} (ht : P.underlying t = some (.slice el)) (hu : P.underlying u = some (.slice el2)) (hi : P.info? el = some i) {w : World} {base : Option Addr} {sLen sCap n cap : Nat} {a : Option Addr} {news : List Value}
    (hn : news.length = n * i.size) (hnews : n ≠ 0 → ∃ b o, a = some ⟨b, o, none⟩ ∧ ∀ j v, news[j]? = some v → w.cell? ⟨b, o + j, none⟩ = some v) (hroom : sLen + n ≤ sCap) {b o : Nat} (hb : n ≠ 0 → base = some ⟨b, o, none⟩)
    (hc : ∀ j, j < news.length → (w.cell? ⟨b, o + (sLen * i.size + j), none⟩).isSome = true ∧ w.frozen? ⟨b, o + (sLen * i.size + j), none⟩ = false) (h1 : ∀ v ∈ news, v.oneCell' = true) :
    (Builtin.append_ #[t, u] ty #[.slice base sLen sCap, .slice a n cap]).run P w = .ok (.slice base (sLen + n) sCap) (w.setCells b (o + sLen * i.size) news) := by
  by_cases h0 : n = 0
  · subst h0
    have hnil : news = [] := List.eq_nil_of_length_eq_zero (by rw [hn]; simp)
    subst hnil
    have hf : (Builtin.firstCells i.size 0 (.slice a 0 cap)).run P w = .ok #[] w := by
      cases a with
      | none => simp [Builtin.firstCells]
      | some x => simp [Builtin.firstCells, loadCells, loadCellsFrom]
    have hr : sLen ≤ sCap := hroom
    cases base with
    | none => simp [Builtin.append_, run_und ht, run_und hu, sizeOf, typeInfo, hi, Builtin.lenOf, hr, hf, World.setCells]
    | some x => simp [Builtin.append_, run_und ht, run_und hu, sizeOf, typeInfo, hi, Builtin.lenOf, hr, hf, World.setCells, storeCells]
  · obtain ⟨b', o', rfl, hcell⟩ := hnews h0
    have hbb := hb h0
    subst hbb
    have hf := run_firstCells_some (P := P) w i.size n ⟨b', o', none⟩ n cap news hn (fun j v hv => by rw [add_none]; exact hcell j v hv)
    have hst := run_storeCells_cells (P := P) b (o + sLen * i.size) news 0 w (fun j hj => by rw [Nat.add_zero, Nat.add_assoc]; exact (hc j hj).1) (fun j hj => by rw [Nat.add_zero, Nat.add_assoc]; exact (hc j hj).2) h1
    rw [Nat.add_zero] at hst
    have hf' : (Builtin.firstCells i.size n (.slice (some ⟨b', o', none⟩) n cap)).run P w = .ok news.toArray w := hf
    simp [Builtin.append_, run_und ht, run_und hu, sizeOf, typeInfo, hi, Builtin.lenOf, hroom, hf', add_none, hst]

theorem run_append_grow' {t u ty el : Nat} {i : TypeInfo} {z : Value} {el2 : Nat} (ht : P.underlying t = some (.slice el)) (hu : P.underlying u = some (.slice el2)) (hi : P.info? el = some i) (hzv : i.zero = some z) {w : World} {base : Option Addr} {sLen sCap n cap : Nat} {a : Option Addr} {olds news : List Value}
    (ho : olds.length = sLen * i.size) (holds : sLen ≠ 0 → ∃ b o, base = some ⟨b, o, none⟩ ∧ ∀ j v, olds[j]? = some v → w.cell? ⟨b, o + j, none⟩ = some v)
    (hn : news.length = n * i.size) (hnews : n ≠ 0 → ∃ b o, a = some ⟨b, o, none⟩ ∧ ∀ j v, news[j]? = some v → w.cell? ⟨b, o + j, none⟩ = some v) (hg : sCap < sLen + n) (hfit : (sLen + n) * i.bytes ≤ 140737488355328) (h63 : ((sLen + n : Nat) : Int) ≤ 9223372036854775807) :
    (Builtin.append_ #[t, u] ty #[.slice base sLen sCap, .slice a n cap]).run P w =
      .ok (.slice (some ⟨w.heap.size, 0, none⟩) (sLen + n) (grownCap w (sLen + n) sCap el)) (w.drew.alloc (.cells (olds.toArray ++ news.toArray ++ Builtin.zeroCells z.cells (grownCap w (sLen + n) sCap el - (sLen + n))) el)) := by
  have hf : (Builtin.firstCells i.size n (.slice a n cap)).run P w.drew = .ok news.toArray w.drew := by
    by_cases h0 : n = 0
    · subst h0
      have hnil : news = [] := List.eq_nil_of_length_eq_zero (by rw [hn]; simp)
      subst hnil
      cases a with
      | none => simp [Builtin.firstCells]
      | some x => simp [Builtin.firstCells, loadCells, loadCellsFrom]
    · obtain ⟨b', o', rfl, hcell⟩ := hnews h0
      exact run_firstCells_some (P := P) w.drew i.size n ⟨b', o', none⟩ n cap news hn (fun j v hv => by rw [add_none]; exact hcell j v hv)
  have hfo : (Builtin.firstCells i.size sLen (.slice base sLen sCap)).run P w.drew = .ok olds.toArray w.drew := by
    by_cases h0 : sLen = 0
    · subst h0
      have hnil : olds = [] := List.eq_nil_of_length_eq_zero (by rw [ho]; simp)
      subst hnil
      cases base with
      | none => simp [Builtin.firstCells]
      | some x => simp [Builtin.firstCells, loadCells, loadCellsFrom]
    · obtain ⟨b', o', rfl, hcell⟩ := holds h0
      exact run_firstCells_some (P := P) w.drew i.size sLen ⟨b', o', none⟩ sLen sCap olds ho (fun j v hv => by rw [add_none]; exact hcell j v hv)
  have hng : ¬ (sLen + n ≤ sCap) := by omega
  have h63' : ¬ (9223372036854775807 < ((sLen : Int) + (n : Int))) := by omega
  have h48' : ¬ (281474976710656 < Builtin.nextslicecap (sLen + n) sCap * i.bytes) := by have := growslice_fits hg hfit; omega
  simp [Builtin.append_, run_und ht, run_und hu, sizeOf, typeInfo, zeroValue, hi, hzv, Builtin.lenOf, hng, h63', h48', Question.forced, hf, hfo, newRow, grownCap]
  congr 2
  apply Array.ext'
  simp [List.append_assoc]
end
end Go.TL

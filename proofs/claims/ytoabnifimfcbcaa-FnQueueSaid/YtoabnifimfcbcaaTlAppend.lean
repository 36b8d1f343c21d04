/- append and make, as operations. -/
import Derived.Test.YtoabnifimfcbcaaTlArr
set_option linter.unusedSimpArgs false
set_option linter.unusedVariables false
namespace Go.TL
open Go

theorem cells_holds {w : World} {c : Ctx} {L : Loc} {t : Bool} {es : Nat} {rows : List (List Leaf)} {cs : List Value} (h : CellsOf w (c.fs t) es cs rows) (hn : rows.length * es ≤ L.n)
    (hL : ∀ j, j < L.n → ∃ v, w.cell? ⟨L.b, L.base + j, none⟩ = some v ∧ w.frozen? ⟨L.b, L.base + j, none⟩ = false) (hc : ∀ j v, cs[j]? = some v → w.cell? ⟨L.b, L.base + j, none⟩ = some v) : Holds w c L (.arr t es rows) := by
  obtain ⟨h1, h2, h3⟩ := h
  refine ⟨hn, h2, hL, fun i j hi hj v hv => ?_⟩
  have hje : j < es := by rw [← h2 _ (List.getElem_mem hi)]; exact hj
  have hlt := row_lt hi hje
  have hcs : cs[i * es + j]? = some (cs[i * es + j]'(by omega)) := by simp
  have := hc _ _ hcs
  rw [this] at hv
  cases hv
  exact h3 i j hi hj _ hcs

theorem keep_drew (w : World) : Keep (fun _ _ => False) w w.drew := ⟨rfl, rfl, rfl, Nat.le_refl _, fun _ _ _ _ => rfl, fun _ _ _ _ => rfl, fun _ _ _ => rfl⟩

/-- A new block that holds a row. -/
theorem sit_newrow {w0 w w1 : World} {W0 : Fr} {c : Ctx} {H H' : Heap} (s : Sit w0 W0 c H w) (k0 : Keep (fun _ _ => False) w w1) (hs1 : w1.heap.size = w.heap.size) (T : TypeId) (vs : Array Value) {t fr : Bool} {es : Nat} {rows : List (List Leaf)} {cs : List Value} {n : Nat} (hn : n = vs.size)
    (hless : ∀ i o, H' i = some o → H i = some o) (hcs : CellsOf w (c.fs t) es cs rows) (hle : cs.length ≤ vs.size) (hv : ∀ (j : Nat) (v : Value), cs[j]? = some v → vs[j]? = some v) :
    Sit w0 W0 (c.push ⟨w.heap.size, 0, n⟩) (upd H' c.nx (some (fr, .arr t es rows))) (w1.alloc (.cells vs T)) ∧ Same c w (w1.alloc (.cells vs T)) := by
  subst hn
  have hk : Keep (fun _ _ => False) w (w1.alloc (.cells vs T)) := k0.trans (keep_alloc w1 (.cells vs T)) fun _ _ _ h => h.elim
  have hs := s.same hk (fun _ _ _ h => h.elim)
  have hce : ∀ j, (w1.alloc (.cells vs T)).cell? ⟨w.heap.size, j, none⟩ = vs[j]? := fun j => by rw [← hs1]; exact heap_push_cell w1 vs T j
  refine s.push hk _ hless (fun _ => False) (fun _ h => h.elim) (fun _ _ _ h => h.elim) (fun b j hb => .inl (by rw [hb.1]; exact Nat.le_refl _)) ?_
  refine cells_holds (cs := cs) (hcs.mono (fun b k x => (c.le_push _).fs _ _ _ x) (fun b k x => hs.fs _ b k x)) (by rw [← hcs.1]; exact hle) (fun j hj => ?_) fun j v hjv => ?_
  · have hj' : j < vs.size := hj
    refine ⟨vs[j], by simp only [Nat.zero_add]; rw [hce]; simp [hj'], ?_⟩
    simp only [Nat.zero_add]
    rw [← hs1]
    exact World.frozen?_alloc_new w1 vs T j
  · simp only [Nat.zero_add]
    rw [hce]
    exact hv j v hjv

section
variable {P : Program} {s : St}

theorem run_append_op {c : Call} {a : Act} {o : Oper} {x y : Operand} {t u : Nat} (ho : o.op = .call c) (hc : c.callee = .builtin .append) (ha : c.args = #[x, y]) (ht : c.argTypes = #[t, u]) (w : World) :
    (execOp a.eval o).run P w = ((Builtin.append_ #[t, u] o.type #[a.eval x, a.eval y]).run P w).andThen fun v w' => .ok (.value v) w' := by
  unfold execOp
  rw [ho]
  simp only [resolve, hc, ha, ht, Sem.run_bind, Sem.run_pure, Result.andThen_ok, invoke, builtin, List.map_toArray, List.map_cons, List.map_nil]

/-- append to an empty slice without room. -/
theorem does_append_nl {c : Call} {x y : Operand} {t u el el2 : Nat} {e e2 ee : TE} {tx : Bool} {rows : List (List Leaf)} (hc : c.callee = .builtin .append) (ha : c.args = #[x, y]) (hat : c.argTypes = #[t, u]) (ht : OkT P t e) (hs : e.sh = .slice el) (hu : OkT P u e2) (hs2 : e2.sh = .slice el2) (he : OkT P el ee)
    (hb0 : 0 < ee.bytes) (hzs : ee.zero.length = ee.size) (hx : ev s.T x = .nl) (hy : srcRows (hp s.H) (ev s.T y) = some (tx, rows)) :
    Does P (.call c) s ⟨(∀ r ∈ rows, r.length = ee.size) ∧ rows.length * ee.bytes ≤ 140737488355328, .os s.nx ee.size 0 rows.length rows.length false, (s.nx, some (true, .arr tx ee.size rows)) :: s.H, s.nx + 1⟩ := by
  intro w0 W0 cx a w hr ⟨hes, hbd⟩
  have hx' := ev_ok hr x
  rw [hx] at hx'
  obtain ⟨ay, capy, cs, hyv, hcy, hcs, hrd⟩ := src_ok hr.sit hy hes (ev_ok hr y)
  obtain ⟨i, z, hi, h1, h2, h3, h4⟩ := he.info
  generalize hxv : a.eval x = xv at hx'
  have hmul : rows.length ≤ rows.length * ee.bytes := Nat.le_mul_of_pos_right _ hb0
  cases hx' with
  | nl base =>
    by_cases h0 : rows.length = 0
    · have : rows = [] := List.eq_nil_of_length_eq_zero h0
      subst this
      have hcs0 : cs = [] := List.eq_nil_of_length_eq_zero (by rw [hcs.1]; simp)
      subst hcs0
      obtain ⟨hsit, hsame⟩ := hr.sit.push (Keep.refl (fun _ _ => False) w) ⟨0, 0, 0⟩ (fr := true) (o := .arr tx ee.size []) (fun _ _ h => h) (fun _ => False) (fun _ h => h.elim) (fun _ _ _ h => h.elim) (fun b j hb => by obtain ⟨_, h5, h6⟩ := hb; simp at h6)
        ⟨by simp, fun r hr => by simp at hr, fun j hj => by simp at hj, fun i j hi => by simp at hi⟩
      refine ⟨.value (.slice base 0 0), w, cx.push ⟨0, 0, 0⟩, _, fun o ho => ?_, .inl rfl, cx.le_push _, by show cx.nx + 1 = s.nx + 1; rw [hr.nx], ?_, hsame, ?_⟩
      · rw [run_append_op ho hc ha hat, hxv, hyv]
        have hrun : (Builtin.append_ #[t, u] o.type #[.slice base 0 0, .slice ay 0 capy]).run P w = .ok (.slice base 0 0) w := by
          have := run_append_room' (P := P) (t := t) (u := u) (ty := o.type) (w := w) (base := base) (sLen := 0) (sCap := 0) (n := 0) (cap := capy) (a := ay) (news := []) (b := 0) (o := 0) (ht.slice hs) (hu.slice hs2) hi (by simp) (fun h => absurd rfl h) (Nat.le_refl _) (fun h => absurd rfl h) (fun j hj => by simp at hj) (fun v hv => by simp at hv)
          simpa [World.setCells] using this
        rw [show ([] : List (List Leaf)).length = 0 from rfl, hrun]
        rfl
      · show Sit w0 W0 _ (hp ((s.nx, _) :: s.H)) _
        rw [hp_cons, ← hr.nx]
        exact hsit
      · show Cv w _ (.os s.nx ee.size 0 0 0 false) _
        rw [← hr.nx]
        exact .os (Nat.lt_succ_self _) (Nat.le_refl _) (Nat.le_refl _) (fun h => by cases h) (.inl rfl) (by rw [Ctx.push_loc]; simp)
    · have hzc : z.cells.size = i.size := by rw [h1, ← hzs, ← h4]; simp
      let G := grownCap w (0 + rows.length) 0 el
      have hG : 0 + rows.length ≤ G := grownCap_ge w _ _ _
      have hsize : (#[] ++ cs.toArray ++ Builtin.zeroCells z.cells (G - (0 + rows.length))).size = G * ee.size := by
        simp only [Array.size_append, List.size_toArray, size_zeroCells, hzc, h1, hcs.1, List.length_nil, Nat.zero_add]
        rw [← Nat.add_mul]
        congr 1
        omega
      obtain ⟨hsit, hsame⟩ := sit_newrow (fr := true) (n := G * ee.size) hr.sit (keep_drew w) rfl el (#[] ++ cs.toArray ++ Builtin.zeroCells z.cells (G - (0 + rows.length))) hsize.symm (fun _ _ h => h) hcs
        (by rw [hsize, hcs.1]; exact Nat.mul_le_mul_right _ (by omega)) (fun j v hjv => by
          have hlt : j < cs.length := by
            rcases Nat.lt_or_ge j cs.length with h | h
            · exact h
            · rw [List.getElem?_eq_none h] at hjv; cases hjv
          rw [Array.getElem?_append_left (by simp; exact hlt)]
          simpa using hjv)
      refine ⟨.value (.slice (some ⟨w.heap.size, 0, none⟩) (0 + rows.length) G), _, _, _, fun o ho => ?_, .inl rfl, cx.le_push ⟨w.heap.size, 0, G * ee.size⟩, by show cx.nx + 1 = s.nx + 1; rw [hr.nx], ?_, hsame, ?_⟩
      · rw [run_append_op ho hc ha hat, hxv, hyv]
        have := run_append_grow' (P := P) (ty := o.type) (w := w) (base := base) (sLen := 0) (sCap := 0) (n := rows.length) (cap := capy) (a := ay) (olds := []) (news := cs) (ht.slice hs) (hu.slice hs2) hi h3 (by simp) (fun h => absurd rfl h) (by rw [h1]; exact hcs.1) hrd (by omega) (by rw [h2, Nat.zero_add]; exact hbd) (by omega)
        rw [this]
        rfl
      · show Sit w0 W0 _ (hp ((s.nx, _) :: s.H)) _
        rw [hp_cons, ← hr.nx]
        exact hsit
      · show Cv _ _ (.os s.nx ee.size 0 rows.length rows.length false) _
        rw [← hr.nx, Nat.zero_add]
        rw [Nat.zero_add] at hG
        refine .os (Nat.lt_succ_self _) hG hG (fun h => by cases h) (.inr ?_) ?_
        · rw [Ctx.push_loc]; simp
        · rw [Ctx.push_loc]; simp [G]

/-- append to an own slice, which is given up. -/
theorem does_append_os {c : Call} {x y : Operand} {t u el el2 : Nat} {e e2 ee : TE} {t1 tx fr : Bool} {id es lo len mc : Nat} {ex : Bool} {old rows : List (List Leaf)} (hc : c.callee = .builtin .append) (ha : c.args = #[x, y]) (hat : c.argTypes = #[t, u]) (ht : OkT P t e) (hs : e.sh = .slice el) (hu : OkT P u e2) (hs2 : e2.sh = .slice el2) (he : OkT P el ee)
    (hb0 : 0 < ee.bytes) (hzs : ee.zero.length = ee.size) (hes0 : ee.size = es) (hx : ev s.T x = .os id es lo len mc ex) (ho : hp s.H id = some (fr, .arr t1 es old)) (hlo : lo + len ≤ old.length) (hy : srcRows (hp s.H) (ev s.T y) = some (tx, rows)) {room : Nat} (hroomA : room ≤ max (len + rows.length) mc) :
    Does P (.call c) s ⟨(∀ r ∈ rows, r.length = es) ∧ (len + rows.length) * ee.bytes ≤ 140737488355328, .os s.nx es 0 (len + rows.length) room false,
      (s.nx, some (fr, .arr (t1 || tx) es ((old.drop lo).take len ++ rows))) :: (id, none) :: s.H, s.nx + 1⟩ := by
  intro w0 W0 cx a w hr ⟨hes, hbd⟩
  have hx' := ev_ok hr x
  rw [hx] at hx'
  obtain ⟨ay, capy, cs, hyv, hcy, hcs, hrd⟩ := src_ok hr.sit hy hes (ev_ok hr y)
  obtain ⟨i, z, hi, h1, h2, h3, h4⟩ := he.info
  have hH : Holds w cx (cx.loc id) (.arr t1 es old) := (hr.sit.own _ _ ho).2
  obtain ⟨ds, hds, hdc⟩ := holds_cells hH hlo
  have hdl : ((old.drop lo).take len).length = len := by simp; omega
  have hall : CellsOf w (cx.fs (t1 || tx)) es (ds ++ cs) ((old.drop lo).take len ++ rows) :=
    (hds.mono (fun b k x => (Ctx.fs_or x).1) fun _ _ _ => rfl).append (hcs.mono (fun b k x => (Ctx.fs_or x).2) fun _ _ _ => rfl)
  have hds1 : ds.length = len * es := by rw [hds.1, hdl]
  have hcs1 : cs.length = rows.length * es := hcs.1
  generalize hxv : a.eval x = xv at hx'
  have hmul : len + rows.length ≤ (len + rows.length) * ee.bytes := Nat.le_mul_of_pos_right _ hb0
  have hgl : ∀ j o, (upd (hp s.H) id none) j = some o → hp s.H j = some o := fun j o hj => by
    by_cases e : j = id
    · subst e; rw [upd_same] at hj; cases hj
    · rw [upd_ne _ _ e] at hj; exact hj
  cases hx' with
  | os hid hl hm hex haa hn =>
    rename_i cap base
    by_cases hroom : len + rows.length ≤ cap
    · -- in place
      obtain ⟨g1, g0, g2, g3⟩ := hH
      have hcapn : ∀ j, j < cap * es → lo * es + j < (cx.loc id).n := fun j hj => by omega
      have hadd : len * es + rows.length * es ≤ cap * es := by rw [← Nat.add_mul]; exact Nat.mul_le_mul_right es hroom
      have hcell : ∀ j, j < cs.length → (w.cell? ⟨(cx.loc id).b, (cx.loc id).base + lo * es + (len * es + j), none⟩).isSome = true ∧ w.frozen? ⟨(cx.loc id).b, (cx.loc id).base + lo * es + (len * es + j), none⟩ = false := by
        intro j hj
        obtain ⟨v, hv, hf⟩ := g2 (lo * es + (len * es + j)) (hcapn _ (by omega))
        rw [← Nat.add_assoc] at hv hf
        exact ⟨by simp [hv], hf⟩
      have hbase : rows.length ≠ 0 → base = some ⟨(cx.loc id).b, (cx.loc id).base + lo * es, none⟩ := fun h => haa.resolve_left (by omega)
      let w' := w.setCells (cx.loc id).b ((cx.loc id).base + lo * es + len * es) cs
      have hkeep := keep_setCells w (cx.loc id).b ((cx.loc id).base + lo * es + len * es) cs
      have hsub : ∀ b j, (b = (cx.loc id).b ∧ (cx.loc id).base + lo * es + len * es ≤ j ∧ j < (cx.loc id).base + lo * es + len * es + cs.length) → inR (cx.loc id) b j := by
        rintro b j ⟨rfl, q1, q2⟩
        have := hcapn (len * es + (j - ((cx.loc id).base + lo * es + len * es))) (by omega)
        exact ⟨rfl, by omega, by omega⟩
      have hsame := hr.sit.same hkeep fun b j _ d => ⟨id, _, ho, hsub b j d⟩
      obtain ⟨hsit, _⟩ := hr.sit.push (H' := upd (hp s.H) id none) (fr := fr) (o := .arr (t1 || tx) es ((old.drop lo).take len ++ rows)) hkeep ⟨(cx.loc id).b, (cx.loc id).base + lo * es, cap * es⟩ hgl (fun j => j = id) (fun j hj => by subst hj; exact upd_same _ _ _)
        (fun b j _ d => ⟨id, _, rfl, ho, hsub b j d⟩) (fun b j hb => .inr ⟨id, _, rfl, ho, by
          obtain ⟨q1, q2, q3⟩ := hb
          simp only at q1 q2 q3
          have := hcapn (j - ((cx.loc id).base + lo * es)) (by omega)
          exact ⟨q1, by omega, by omega⟩, fun h => h⟩) (by
        refine cells_holds (cs := ds ++ cs) (hall.mono (fun b k x => (cx.le_push _).fs _ _ _ x) (fun b k x => hsame.fs _ b k x)) ?_ (fun j hj => ?_) fun j v hjv => ?_
        · simp only [List.length_append, hdl]; exact Nat.mul_le_mul_right es hroom
        · simp only at hj
          have hlt := hcapn j hj
          obtain ⟨v, hv, hf⟩ := g2 (lo * es + j) hlt
          rw [← Nat.add_assoc] at hv hf
          by_cases hin : len * es ≤ j ∧ j < len * es + cs.length
          · refine ⟨cs[j - len * es]'(by omega), ?_, by rw [World.frozen?_setCells]; exact hf⟩
            have := World.cell?_setCells_in (cx.loc id).b cs ((cx.loc id).base + lo * es + len * es) w (fun q hq => by have := (hcell q hq).1; rw [← Nat.add_assoc] at this; exact this) (j - len * es) (by omega)
            rw [show (cx.loc id).base + lo * es + len * es + (j - len * es) = (cx.loc id).base + lo * es + j by omega] at this
            exact this
          · refine ⟨v, ?_, by rw [World.frozen?_setCells]; exact hf⟩
            rw [World.cell?_setCells_out _ _ _ _ _ (fun _ _ => by simp only; omega)]
            exact hv
        · by_cases hlt : j < ds.length
          · rw [List.getElem?_append_left hlt] at hjv
            rw [World.cell?_setCells_out _ _ _ _ _ (fun _ _ => by simp only; omega)]
            exact hdc j v hjv
          · rw [List.getElem?_append_right (by omega)] at hjv
            have hlt2 : j - ds.length < cs.length := by
              rcases Nat.lt_or_ge (j - ds.length) cs.length with h | h
              · exact h
              · rw [List.getElem?_eq_none h] at hjv; cases hjv
            have := World.cell?_setCells_in (cx.loc id).b cs ((cx.loc id).base + lo * es + len * es) w (fun q hq => by have := (hcell q hq).1; rw [← Nat.add_assoc] at this; exact this) (j - ds.length) hlt2
            rw [show (cx.loc id).base + lo * es + len * es + (j - ds.length) = (cx.loc id).base + lo * es + j by omega] at this
            simp only
            rw [this, ← hjv]
            simp [hlt2])
      refine ⟨.value (.slice base (len + rows.length) cap), w', _, _, fun o ho' => ?_, .inl rfl, cx.le_push ⟨(cx.loc id).b, (cx.loc id).base + lo * es, cap * es⟩, by show cx.nx + 1 = s.nx + 1; rw [hr.nx], ?_, hsame, ?_⟩
      · rw [run_append_op ho' hc ha hat, hxv, hyv]
        have := run_append_room' (P := P) (ty := o.type) (w := w) (base := base) (sLen := len) (sCap := cap) (n := rows.length) (cap := capy) (a := ay) (news := cs) (b := (cx.loc id).b) (o := (cx.loc id).base + lo * es) (ht.slice hs) (hu.slice hs2) hi (by rw [h1, hes0]; exact hcs1) hrd hroom hbase
          (fun j hj => by rw [h1, hes0]; exact hcell j hj) hcs.one
        rw [this, h1, hes0]
        rfl
      · show Sit w0 W0 _ (hp ((s.nx, _) :: (id, none) :: s.H)) _
        rw [hp_cons, hp_cons, ← hr.nx]
        exact hsit
      · show Cv _ _ (.os s.nx es 0 (len + rows.length) room false) _
        rw [← hr.nx]
        refine .os (Nat.lt_succ_self _) hroom (by omega) (fun h => by cases h) ?_ ?_
        · rw [Ctx.push_loc]
          rcases haa with h | h
          · exact .inl h
          · exact .inr (by rw [h]; simp)
        · rw [Ctx.push_loc]; simp
    · -- a new block
      have hzc : z.cells.size = i.size := by rw [h1, ← hzs, ← h4]; simp
      let G := grownCap w (len + rows.length) cap el
      have hG : len + rows.length ≤ G := grownCap_ge w _ _ _
      have hsize : (ds.toArray ++ cs.toArray ++ Builtin.zeroCells z.cells (G - (len + rows.length))).size = G * es := by
        simp only [Array.size_append, List.size_toArray, size_zeroCells, hzc, h1, hes0, hds1, hcs1]
        rw [← Nat.add_mul, ← Nat.add_mul]
        congr 1
        omega
      obtain ⟨hsit, hsame⟩ := sit_newrow (fr := fr) (n := G * es) (H' := upd (hp s.H) id none) hr.sit (keep_drew w) rfl el (ds.toArray ++ cs.toArray ++ Builtin.zeroCells z.cells (G - (len + rows.length))) hsize.symm hgl hall
        (by rw [hsize, List.length_append, hds1, hcs1, ← Nat.add_mul]; exact Nat.mul_le_mul_right _ hG) (fun j v hjv => by
          have hlt : j < (ds ++ cs).length := by
            rcases Nat.lt_or_ge j (ds ++ cs).length with h | h
            · exact h
            · rw [List.getElem?_eq_none h] at hjv; cases hjv
          rw [Array.getElem?_append_left (by simpa using hlt)]
          simpa using hjv)
      refine ⟨.value (.slice (some ⟨w.heap.size, 0, none⟩) (len + rows.length) G), _, _, _, fun o ho' => ?_, .inl rfl, cx.le_push ⟨w.heap.size, 0, G * es⟩, by show cx.nx + 1 = s.nx + 1; rw [hr.nx], ?_, hsame, ?_⟩
      · rw [run_append_op ho' hc ha hat, hxv, hyv]
        have := run_append_grow' (P := P) (ty := o.type) (w := w) (base := base) (sLen := len) (sCap := cap) (n := rows.length) (cap := capy) (a := ay) (olds := ds) (news := cs) (ht.slice hs) (hu.slice hs2) hi h3 (by rw [h1, hes0]; exact hds1)
          (fun h0 => ⟨_, _, haa.resolve_left (by omega), hdc⟩) (by rw [h1, hes0]; exact hcs1) hrd (by omega) (by rw [h2]; exact hbd) (by omega)
        rw [this]
        rfl
      · show Sit w0 W0 _ (hp ((s.nx, _) :: (id, none) :: s.H)) _
        rw [hp_cons, hp_cons, ← hr.nx]
        exact hsit
      · show Cv _ _ (.os s.nx es 0 (len + rows.length) room false) _
        rw [← hr.nx]
        refine .os (Nat.lt_succ_self _) hG (by omega) (fun h => by cases h) (.inr ?_) ?_
        · rw [Ctx.push_loc]; simp
        · rw [Ctx.push_loc]; simp [G]

/-- make of a slice. -/
theorem does_make {t el : Nat} {e ee : TE} {x y : Operand} {k1 k2 : IntKind} {n : Int} {zl : List Leaf} (ht : OkT P t e) (hs : e.sh = .slice el) (he : OkT P el ee) (hzs : ee.zero.length = ee.size) (hz : leaves? (ee.zero.map cellLV) = some (false, zl)) (hx : sc? (ev s.T x) = some (.int k1 n)) (hy : sc? (ev s.T y) = some (.int k2 n)) :
    Does P (.makeSlice t x y) s ⟨0 ≤ n ∧ n * ee.bytes ≤ 281474976710656 ∧ n ≤ 9223372036854775807, .os s.nx ee.size 0 n.toNat n.toNat true, (s.nx, some (true, .arr false ee.size (List.replicate n.toNat zl))) :: s.H, s.nx + 1⟩ := by
  intro w0 W0 cx a w hr ⟨h0, hbd, h63⟩
  have hx' := (sc_of hx (ev_ok hr x)).1
  have hy' := (sc_of hy (ev_ok hr y)).1
  obtain ⟨i, z, hi, h1, h2, h3, h4⟩ := he.info
  have hzc : z.cells.size = ee.size := by rw [← hzs, ← h4]; simp
  have hrun := run_make (P := P) w t el i z (ht.slice hs) hi h3 k1 k2 n n h0 (Int.le_refl _) (by rw [h2, Int.mul_comm]; exact hbd) h63
  rw [h1] at hrun
  obtain ⟨hzl, hlv⟩ := leaves_of (w := w) (c := cx) hz
  have hzl' : zl.length = ee.size := by rw [hzl]; simp [hzs]
  have hget : ∀ k, k < n.toNat * ee.size → (madeCells z.cells (n.toNat * ee.size))[k]? = z.cells[k % ee.size]? := by
    intro k hk
    have hp : 0 < ee.size := by
      rcases Nat.eq_zero_or_pos ee.size with h | h
      · rw [h] at hk; simp at hk
      · exact h
    have hm := Nat.mod_lt k hp
    simp only [madeCells, hzc]
    simp [hk, hzc, hm]
  have hcs : CellsOf w (cx.fs false) ee.size (madeCells z.cells (n.toNat * ee.size)).toList (List.replicate n.toNat zl) := by
    refine ⟨by simp [size_madeCells], fun r hr => by rw [List.mem_replicate] at hr; rw [hr.2]; exact hzl', fun p q hp hq v hv => ?_⟩
    have hp' : p < n.toNat := by simpa using hp
    have hq' : q < zl.length := by simpa using hq
    have hlt := row_lt hp' (by omega : q < ee.size)
    have hmod : (p * ee.size + q) % ee.size = q := by rw [Nat.mul_comm, Nat.mul_add_mod, Nat.mod_eq_of_lt (by omega)]
    have hv' : (madeCells z.cells (n.toNat * ee.size))[p * ee.size + q]? = some v := by simpa using hv
    rw [hget _ hlt, hmod] at hv'
    have hzq : ee.zero[q]? = some v := by rw [← h4]; simpa using hv'
    have hqz : q < ee.zero.length := by omega
    rw [List.getElem?_eq_getElem hqz] at hzq
    have := hlv q (by simpa using hqz) hq' v (by rw [List.getElem_map]; cases hzq; exact cell_ok _ _ _)
    simpa using this
  obtain ⟨hsit, hsame⟩ := sit_newrow (fr := true) (n := n.toNat * ee.size) hr.sit (Keep.refl _ w) rfl el (madeCells z.cells (n.toNat * ee.size)) (by rw [size_madeCells]) (fun _ _ h => h) hcs (by simp) (fun j v hj => by simpa using hj)
  refine ⟨.value (.slice (some ⟨w.heap.size, 0, none⟩) n.toNat n.toNat), _, _, _, fun o ho => ?_, .inl rfl, cx.le_push ⟨w.heap.size, 0, n.toNat * ee.size⟩, by show cx.nx + 1 = s.nx + 1; rw [hr.nx], ?_, hsame, ?_⟩
  · unfold execOp
    rw [ho]
    simp only [hx', hy', Sem.run_bind, hrun, Result.andThen_ok, Sem.run_pure]
  · show Sit w0 W0 _ (hp ((s.nx, _) :: s.H)) _
    rw [hp_cons, ← hr.nx]
    exact hsit
  · show Cv _ _ (.os s.nx ee.size 0 n.toNat n.toNat true) _
    rw [← hr.nx]
    refine .os (Nat.lt_succ_self _) (Nat.le_refl _) (Nat.le_refl _) (fun _ => rfl) (.inr ?_) ?_
    · rw [Ctx.push_loc]; simp
    · rw [Ctx.push_loc]; simp
theorem run_clear_op {c : Call} {a : Act} {o : Oper} {x : Operand} {t : Nat} (ho : o.op = .call c) (hc : c.callee = .builtin .clear) (ha : c.args = #[x]) (ht : c.argTypes = #[t]) (w : World) :
    (execOp a.eval o).run P w = ((Builtin.clear_ #[t] o.type #[a.eval x]).run P w).andThen fun v w' => .ok (.value v) w' := by
  unfold execOp
  rw [ho]
  simp only [resolve, hc, ha, ht, Sem.run_bind, Sem.run_pure, Result.andThen_ok, invoke, builtin, List.map_toArray, List.map_cons, List.map_nil]

/-- clear, of cells behind what is told of an own row. -/
theorem does_clear {c : Call} {x : Operand} {t el : Nat} {e ee : TE} {t1 fr : Bool} {id es lo len mc : Nat} {ex : Bool} {old : List (List Leaf)} {zl : List Leaf} (hc : c.callee = .builtin .clear) (ha : c.args = #[x]) (hat : c.argTypes = #[t]) (ht : OkT P t e) (hs : e.sh = .slice el) (he : OkT P el ee)
    (hzs : ee.zero.length = ee.size) (hz : leaves? (ee.zero.map cellLV) = some (false, zl)) (hes0 : ee.size = es) (hx : ev s.T x = .os id es lo len mc ex) (ho : hp s.H id = some (fr, .arr t1 es old)) :
    Does P (.call c) s ⟨old.length ≤ lo, .un, s.H, s.nx⟩ := by
  intro w0 W0 cx a w hr hlo
  have hx' := ev_ok hr x
  rw [hx] at hx'
  obtain ⟨i, z, hi, h1, h2, h3, h4⟩ := he.info
  have hzc : z.cells.size = es := by rw [← hes0, ← hzs, ← h4]; simp
  have hH : Holds w cx (cx.loc id) (.arr t1 es old) := (hr.sit.own _ _ ho).2
  obtain ⟨g1, g0, g2, g3⟩ := hH
  have hzv : ∀ w : World, (zeroValue el).run P w = .ok z w := fun w => by simp [zeroValue, run_info hi, h3]
  have hund := ht.slice hs
  generalize hxv : a.eval x = xv at hx'
  cases hx' with
  | os hid hl hm hex haa hn =>
    rename_i cap base
    by_cases hq : base = none ∨ len = 0
    · have hrun : ∀ ty, (Builtin.clear_ #[t] ty #[.slice base len cap]).run P w = .ok (.tuple #[]) w := fun ty => by
        rcases hq with hq | hq
        · subst hq; simp [Builtin.clear_, run_und hund]
        · subst hq; cases base <;> simp [Builtin.clear_, run_und hund]
      refine ⟨.value (.tuple #[]), w, cx, _, fun o ho' => ?_, .inl rfl, .refl cx, hr.nx, hr.sit, .refl cx w, .un _⟩
      rw [run_clear_op ho' hc ha hat, hxv, hrun]
      rfl
    · have hb : base = some ⟨(cx.loc id).b, (cx.loc id).base + lo * es, none⟩ := haa.resolve_left (by omega)
      have hlen0 : len ≠ 0 := fun h => hq (.inr h)
      let cs := (Builtin.zeroCells z.cells len).toList
      have hcl : cs.length = len * es := by show (Builtin.zeroCells z.cells len).toList.length = _; rw [Array.length_toList, size_zeroCells, hzc]
      have hcap : len * es ≤ cap * es := Nat.mul_le_mul_right es hl
      have hthere : ∀ j, j < cs.length → ∃ v, w.cell? ⟨(cx.loc id).b, (cx.loc id).base + lo * es + j, none⟩ = some v ∧ w.frozen? ⟨(cx.loc id).b, (cx.loc id).base + lo * es + j, none⟩ = false := fun j hj => by
        obtain ⟨v, hv, hf⟩ := g2 (lo * es + j) (by omega)
        rw [← Nat.add_assoc] at hv hf
        exact ⟨v, hv, hf⟩
      have hone : ∀ u ∈ cs, u.oneCell' = true := fun u hu => by
        have hu' : u ∈ (Builtin.zeroCells z.cells len).toList := hu
        simp only [Builtin.zeroCells, Array.toList_map, List.mem_map, Array.toList_range, List.mem_range] at hu'
        obtain ⟨k, hk, rfl⟩ := hu'
        have hpos : 0 < z.cells.size := by
          rcases Nat.eq_zero_or_pos z.cells.size with h | h
          · rw [h] at hk; simp at hk
          · exact h
        have hm := Nat.mod_lt k hpos
        have hf := leaves_flat hz
        rw [List.all_eq_true] at hf
        have hmem : z.cells[k % z.cells.size] ∈ ee.zero := by rw [← h4]; simp
        have := (flat_one (hf _ (List.mem_map.2 ⟨_, hmem, rfl⟩)) (cell_ok w cx _)).1
        rw [getElem!_pos z.cells (k % z.cells.size) hm]
        exact this
      have hst := run_storeCells_cells (P := P) (cx.loc id).b ((cx.loc id).base + lo * es) cs 0 w (fun j hj => by obtain ⟨v, hv, _⟩ := hthere j hj; simp [hv]) (fun j hj => by obtain ⟨v, _, hf⟩ := hthere j hj; simpa using hf) hone
      simp only [Nat.add_zero] at hst
      have hrun : ∀ ty, (Builtin.clear_ #[t] ty #[.slice base len cap]).run P w = .ok (.tuple #[]) (w.setCells (cx.loc id).b ((cx.loc id).base + lo * es) cs) := fun ty => by
        obtain ⟨m, rfl⟩ : ∃ m, len = m + 1 := ⟨len - 1, by omega⟩
        subst hb
        have hst' := hst
        simp only [cs] at hst'
        simp [Builtin.clear_, run_und hund, hzv, hst', cs]
      have hkeep := keep_setCells w (cx.loc id).b ((cx.loc id).base + lo * es) cs
      have hsub : ∀ b j, b < w.heap.size → (b = (cx.loc id).b ∧ (cx.loc id).base + lo * es ≤ j ∧ j < (cx.loc id).base + lo * es + cs.length) → inR (cx.loc id) b j := by
        rintro b j _ ⟨rfl, q1, q2⟩
        exact ⟨rfl, by omega, by omega⟩
      have hsame := hr.sit.same hkeep fun b j hb d => ⟨id, _, ho, hsub b j hb d⟩
      have hrow : old.length * es ≤ lo * es := Nat.mul_le_mul_right es hlo
      obtain ⟨hsit, _⟩ := hr.sit.upd (o' := .arr t1 es old) hkeep ho hsub (by
        refine ⟨g1, g0, fun j hj => ?_, fun p q hp hq u hu => ?_⟩
        · by_cases hin : lo * es ≤ j ∧ j < lo * es + cs.length
          · refine ⟨cs[j - lo * es]'(by omega), ?_, by rw [World.frozen?_setCells]; exact (g2 j hj).elim fun _ h => h.2⟩
            have := World.cell?_setCells_in (cx.loc id).b cs ((cx.loc id).base + lo * es) w (fun i hi => by obtain ⟨u, hu, _⟩ := hthere i hi; simp [hu]) (j - lo * es) (by omega)
            rw [show (cx.loc id).base + lo * es + (j - lo * es) = (cx.loc id).base + j by omega] at this
            rw [this]
          · obtain ⟨u, hu, hzz⟩ := g2 j hj
            refine ⟨u, ?_, by rw [World.frozen?_setCells]; exact hzz⟩
            rw [World.cell?_setCells_out _ _ _ _ _ (fun _ _ => by simp only; omega)]
            exact hu
        · have hqe : q < es := by rw [← g0 _ (List.getElem_mem hp)]; exact hq
          have := row_lt hp hqe
          rw [World.cell?_setCells_out _ _ _ _ _ (fun _ _ => by simp only; omega)] at hu
          exact (g3 p q hp hq u hu).mono (fun b k x => x) (fun b k x => hsame.fs _ b k x))
      have hsame2 : upd (hp s.H) id (some (fr, .arr t1 es old)) = hp s.H := by
        funext j
        by_cases e : j = id
        · subst e; rw [upd_same, ho]
        · rw [upd_ne _ _ e]
      rw [hsame2] at hsit
      refine ⟨.value (.tuple #[]), _, cx, _, fun o ho' => ?_, .inl rfl, .refl cx, hr.nx, hsit, hsame, .un _⟩
      rw [run_clear_op ho' hc ha hat, hxv, hrun]
      rfl
end
end Go.TL

import Derived.Test.YtjhcfmcdllfmpaaTlGsB
set_option linter.unusedSimpArgs false
set_option linter.unusedVariables false
namespace Go.Proofs
open Go.RowKit Go.Shelf Go.TL
attribute [local go_sem] Oper.semAt_some

theorem rep_cap {w : World} {F : CellSet} {a : Option Addr} {n c : Nat} {l : Leaf} (h : RepL w F (.slice a n c) l) : n ≤ c := by
  generalize hv : Value.slice a n c = v at h
  cases h with
  | sc h => subst hv; cases h
  | nil => cases hv; exact Nat.zero_le _
  | sl cs hes hcap hS hr => cases hv; exact hcap
theorem rep_sc {w : World} {F : CellSet} {v u : Value} (h : RepL w F v (.sc u)) : v = u := by cases h; rfl
/-- What stays while it runs: the saga's box, and the result's. -/
structure GS (w W : World) (sa sm : Value) (done : Int) (un : Bool) : Prop where
  below : Below w.heap.size w W
  s0 : W.cell? ⟨w.heap.size, 0, none⟩ = some sa
  s1 : W.cell? ⟨w.heap.size, 1, none⟩ = some sm
  s2 : W.cell? ⟨w.heap.size, 2, none⟩ = some (.int .i64 done)
  s3 : W.cell? ⟨w.heap.size, 3, none⟩ = some (.bool un)
  r0 : W.cell? ⟨w.heap.size + 1, 0, none⟩ = some (.bool false)
  rf : W.frozen? ⟨w.heap.size + 1, 0, none⟩ = false
  sz : w.heap.size + 2 ≤ W.heap.size
theorem GS.next {w W W' : World} {sa sm : Value} {done : Int} {un : Bool} (h : GS w W sa sm done un) (hb : Below W.heap.size W W') : GS w W' sa sm done un := by
  have hs := h.sz
  have hc : ∀ b k, b < w.heap.size + 2 → W'.cell? ⟨b, k, none⟩ = W.cell? ⟨b, k, none⟩ := fun b k hl => hb.cell (p := ⟨b, k, none⟩) (by show b < W.heap.size; omega)
  exact ⟨h.below.trans (hb.mono (by omega)), (hc _ _ (by omega)).trans h.s0, (hc _ _ (by omega)).trans h.s1, (hc _ _ (by omega)).trans h.s2, (hc _ _ (by omega)).trans h.s3, (hc _ _ (by omega)).trans h.r0, (hb.frozen (p := ⟨w.heap.size + 1, 0, none⟩) (by show w.heap.size + 1 < W.heap.size; omega)).trans h.rf, Nat.le_trans hs hb.size⟩

theorem GS.book {w W W' : World} {sa sm : Value} {done : Int} {un : Bool} {n : Nat} (h : GS w W sa sm done un) (hn : w.heap.size ≤ n) (hb : Book n W W') : GS w W' sa sm done un :=
  ⟨h.below.trans (hb.below.mono hn), (hb.cell _).trans h.s0, (hb.cell _).trans h.s1, (hb.cell _).trans h.s2, (hb.cell _).trans h.s3, (hb.cell _).trans h.r0, (hb.frz _).trans h.rf, Nat.le_trans h.sz hb.below.size⟩
theorem GS.set {w W : World} {sa sm : Value} {done : Int} {un : Bool} {b : Nat} {v : Value} (h : GS w W sa sm done un) (hb : w.heap.size + 2 ≤ b) : GS w (W.setCell ⟨b, 0, none⟩ v) sa sm done un := by
  have ho : ∀ x k, x < w.heap.size + 2 → (W.setCell ⟨b, 0, none⟩ v).cell? ⟨x, k, none⟩ = W.cell? ⟨x, k, none⟩ := fun x k hx => World.cell?_setCell_other _ _ _ _ (by intro e; cases e; omega)
  exact ⟨h.below.setCell (p := ⟨b, 0, none⟩) (by show _ ≤ b; omega) _, (ho _ _ (by omega)).trans h.s0, (ho _ _ (by omega)).trans h.s1, (ho _ _ (by omega)).trans h.s2, (ho _ _ (by omega)).trans h.s3, (ho _ _ (by omega)).trans h.r0, by rw [World.frozen?_setCell]; exact h.rf, by rw [World.size_setCell]; exact h.sz⟩
theorem GS.setR {w W : World} {sa sm : Value} {done : Int} {un : Bool} (h : GS w W sa sm done un) : GS w (W.setCell ⟨w.heap.size + 1, 0, none⟩ (.bool false)) sa sm done un := by
  have ho : ∀ k, (W.setCell ⟨w.heap.size + 1, 0, none⟩ (.bool false)).cell? ⟨w.heap.size, k, none⟩ = W.cell? ⟨w.heap.size, k, none⟩ := fun k => World.cell?_setCell_other _ _ _ _ (by intro e; injection e with e; omega)
  exact ⟨h.below.setCell (p := ⟨w.heap.size + 1, 0, none⟩) (by show _ ≤ w.heap.size + 1; omega) _, (ho _).trans h.s0, (ho _).trans h.s1, (ho _).trans h.s2, (ho _).trans h.s3, World.cell?_setCell_same _ _ _ h.r0, by rw [World.frozen?_setCell]; exact h.rf, by rw [World.size_setCell]; exact h.sz⟩
theorem rep_rows3 {w : World} {F : CellSet} {ma : Option Addr} {n mc : Nat} {M : List (Int × Int × Int)} (h : RepL w F (.slice ma n mc) (LM M)) : (0 < M.length → ∃ b off, ma = some ⟨b, off, none⟩) ∧ ∀ b off, ma = some ⟨b, off, none⟩ → ∀ j, j < M.length →
    (F b (off + j * 3) ∧ w.cell? ⟨b, off + j * 3, none⟩ = some (.int .i64 (M[j]?.getD (0, 0, 0)).1)) ∧ (F b (off + j * 3 + 1) ∧ w.cell? ⟨b, off + j * 3 + 1, none⟩ = some (.int .i64 (M[j]?.getD (0, 0, 0)).2.1)) ∧ (F b (off + j * 3 + 2) ∧ w.cell? ⟨b, off + j * 3 + 2, none⟩ = some (.int .i64 (M[j]?.getD (0, 0, 0)).2.2)) := by
  generalize hv : Value.slice ma n mc = v at h
  generalize hl : LM M = l at h
  cases h with
  | sc h => cases hl
  | nil =>
    injection hl with hl
    have : M = [] := by simpa using hl
    subst this
    exact ⟨fun h => by simp at h, fun b off _ j hj => by simp at hj⟩
  | @sl b0 off0 cap es rows cs hes hcap hS hr =>
    injection hl with hl
    injection hv with hv1 hv2 hv3
    subst hl; subst hv1
    refine ⟨fun _ => ⟨_, _, rfl⟩, fun b off he j hj => ?_⟩
    injection he with he
    injection he with he1 he2
    subst he1; subst he2
    have hj' : j < (M.map fun x => [Leaf.sc (Value.int .i64 x.1), .sc (.int .i64 x.2.1), .sc (.int .i64 x.2.2)]).length := by simpa using hj
    have he3 : es = 3 := (hes _ (List.getElem_mem hj')).symm.trans (by simp)
    subst he3
    have hM : M[j]?.getD (0, 0, 0) = M[j] := by rw [List.getElem?_eq_getElem hj]; rfl
    rw [hM]
    have key : ∀ i (hi : i < 3) (u : Value), ([Leaf.sc (Value.int .i64 M[j].1), .sc (.int .i64 M[j].2.1), .sc (.int .i64 M[j].2.2)])[i]'(by simpa using hi) = .sc u → F b0 (off0 + (j * 3 + i)) ∧ w.cell? ⟨b0, off0 + (j * 3 + i), none⟩ = some u := by
      intro i hi u hu
      refine ⟨(hS j i hj' hi).1, (hS j i hj' hi).2.trans ?_⟩
      have := hr j i hj' (by simp; omega)
      simp only [List.getElem_map] at this
      rw [hu] at this
      rw [rep_sc this]
    exact ⟨key 0 (by omega) _ rfl, key 1 (by omega) _ rfl, key 2 (by omega) _ rfl⟩
set_option maxRecDepth 100000 in
set_option maxHeartbeats 8000000 in
theorem Try.goodSaga_w (w : World) (F0 : CellSet) (hF0 : ∀ b k, F0 b k → b < w.heap.size) (A : List Int) (M : List (Int × Int × Int)) (done : Int) (un : Bool) (aa : Option Addr) (ac : Nat) (ma : Option Addr) (mc : Nat)
    (ra : RepL w F0 (.slice aa A.length ac) (LI A)) (rm : RepL w F0 (.slice ma M.length mc) (LM M)) (bad ok ins : Bool)
    (hCF : ∀ (W : World), GS w W (.slice aa A.length ac) (.slice ma M.length mc) done un →
      Calls Try.prog 36 #[.slice ma M.length mc, .func (.func 37) #[] #[.pointer (some ⟨w.heap.size, 0, none⟩)]] W fun e W' => e = .returned (.bool bad) ∧ Below W.heap.size W W')
    (hAO : ∀ W : World, Below w.heap.size w W → Calls Try.prog 39 #[.slice aa A.length ac] W fun e W' => e = .returned (.bool ok) ∧ Below W.heap.size W W')
    (hIN : ok = true → M.length ≤ 20 → bad = false → ∀ W : World, Calls Try.prog 40 #[.int .i64 done, .int .i64 0, .int .i64 (M.length : Nat)] W fun e W' => e = .returned (.bool ins) ∧ Below W.heap.size W W')
    (hdn : ok = true → M.length ≤ 20 → bad = false → ins = true → 0 ≤ done ∧ done ≤ (M.length : Int)) (G : List (Int × Int × Int) → List Int → Option Bool) (r : Bool) (hGn : ∀ now, G [] now = some r → r = true) (hG0 : ok = true → M.length ≤ 20 → bad = false → ins = true → G ((M.take done.toNat).reverse) A = some r)
    (hG : ∀ m rest now, G (m :: rest) now = some r → ∃ c : List Int × Bool, (∀ (W : World) (F : CellSet) (v : Value), (∀ b k, F b k → b < W.heap.size) → RepL W F v (LI now) →
        Calls Try.prog 42 #[v, Mv3 (m.2.1, m.1, m.2.2)] W fun e W' => ∃ v' F', e = .returned (.tuple #[v', .bool c.2]) ∧ Below W.heap.size W W' ∧ (∀ b k, F' b k → W.heap.size ≤ b ∧ b < W'.heap.size) ∧ RepL W' F' v' (LI c.1)) ∧
      (c.2 = true → G rest c.1 = some r) ∧ (c.2 = false → r = false))
    (hBK : ∀ x W, Calls Try.prog 43 #[Mv3 x] W fun e W' => e = .returned (Mv3 (x.2.1, x.1, x.2.2)) ∧ Below W.heap.size W W')
    (h1 : ok = false → r = false) (h2 : M.length > 20 → r = false) (h3 : bad = true → r = false) (h4 : ok = true → M.length ≤ 20 → bad = false → ins = false → r = false) :
    Calls Try.prog 18 #[.agg #[.slice aa A.length ac, .slice ma M.length mc, .int .i64 done, .bool un]] w fun e w' => e = .returned (.bool r) ∧ Below w.heap.size w w' := by
  refine (callsIn_wide (n := 3)).1 ?_
  refine callsIn_of_wp_marks Try.func18 rfl trivial ?_ rfl
  simp only [Try.ntmps18, List.size_toArray, List.length_cons, List.length_nil, Nat.reduceAdd, Nat.reduceSub, Array.replicate_succ, Array.replicate_zero, List.push_toArray, List.append_toArray, List.nil_append, List.cons_append]
  have g0 : GS w ((w.alloc (Obj.cells #[.slice aa A.length ac, Value.slice ma M.length mc, Value.int IntKind.i64 done, Value.bool un] 28)).alloc (Obj.cells #[Value.bool false] 4)) (.slice aa A.length ac) (.slice ma M.length mc) done un := by
    have hb1 := (Below.refl w.heap.size w).alloc (Nat.le_refl _) (Obj.cells #[.slice aa A.length ac, Value.slice ma M.length mc, Value.int IntKind.i64 done, Value.bool un] 28)
    have hb2 := hb1.alloc (by simp) (Obj.cells #[Value.bool false] 4)
    refine ⟨hb2, ?_, ?_, ?_, ?_, ?_, ?_, by simp⟩ <;> simp [go_sem]
  gi_wp2
  refine ⟨trivial, (callsIn_wide.2 (hCF _ g0)).mono ?_⟩
  rintro e W1 ⟨rfl, hb1⟩
  have g1 := g0.next hb1
  obtain ⟨x0, x1, x2, x3, x4⟩ := And.intro g1.s0 (And.intro g1.s1 (And.intro g1.s2 (And.intro g1.r0 g1.rf)))
  gi_wp2
  refine ⟨trivial, (callsIn_wide.2 (hAO _ g1.below)).mono ?_⟩
  rintro e W2 ⟨rfl, hb2⟩
  have g2 := g1.next hb2
  clear x0 x1 x2 x3 x4
  obtain ⟨x0, x1, x2, x3, x4⟩ := And.intro g2.s0 (And.intro g2.s1 (And.intro g2.s2 (And.intro g2.r0 g2.rf)))
  by_cases hok : ok = true
  rotate_left
  · have hok : ok = false := by simpa using hok
    subst hok
    gi_wp2
    refine ⟨trivial, ?_⟩
    gi_wp2
    refine ⟨.bool false, by simp [results, Try.f18, go_sem, x3], by rw [h1 (by first | rfl | trivial)], g2.below.setCell (p := ⟨w.heap.size + 1, 0, none⟩) (by show _ ≤ w.heap.size + 1; omega) _⟩
  subst hok
  by_cases hl : M.length > 20
  · gi_wp2
    refine ⟨trivial, ?_⟩
    gi_wp2
    refine ⟨.bool false, by simp [results, Try.f18, go_sem, x3], by rw [h2 hl], g2.below.setCell (p := ⟨w.heap.size + 1, 0, none⟩) (by show _ ≤ w.heap.size + 1; omega) _⟩
  cases bad
  rotate_left
  · gi_wp2
    refine ⟨trivial, ?_⟩
    gi_wp2
    refine ⟨.bool false, by simp [results, Try.f18, go_sem, x3], by rw [h3 (by first | rfl | trivial)], g2.below.setCell (p := ⟨w.heap.size + 1, 0, none⟩) (by show _ ≤ w.heap.size + 1; omega) _⟩
  gi_wp2
  refine ⟨trivial, (callsIn_wide.2 (hIN (by first | rfl | trivial) (by omega) (by first | rfl | trivial) _)).mono ?_⟩
  rintro e W3 ⟨rfl, hb3⟩
  have g3 := g2.next hb3
  clear x0 x1 x2 x3 x4
  obtain ⟨x0, x1, x2, x3, x4⟩ := And.intro g3.s0 (And.intro g3.s1 (And.intro g3.s2 (And.intro g3.r0 g3.rf)))
  cases ins
  · gi_wp2
    refine ⟨.bool false, by simp [results, Try.f18, go_sem, x3], by rw [h4 (by first | rfl | trivial) (by omega) (by first | rfl | trivial) (by first | rfl | trivial)], g3.below.setCell (p := ⟨w.heap.size + 1, 0, none⟩) (by show _ ≤ w.heap.size + 1; omega) _⟩
  have hl20 : ¬ ((20 : Int) < (M.length : Int)) := by omega
  obtain ⟨hd0, hd1⟩ := hdn (by first | rfl | trivial) (by omega) (by first | rfl | trivial) (by first | rfl | trivial)
  have hmc : M.length ≤ mc := rep_cap rm
  obtain ⟨dn, rfl⟩ : ∃ dn : Nat, done = (dn : Int) := ⟨done.toNat, by omega⟩
  have hq := g3.sz
  have y0 : (W3.alloc (Obj.cells #[Value.slice aa A.length ac] 23)).cell? ⟨w.heap.size, 1, none⟩ = some (Value.slice ma M.length mc) := (((Below.refl _ W3).alloc (Nat.le_refl _) _).cell (p := ⟨w.heap.size, 1, none⟩) (by show w.heap.size < W3.heap.size; omega)).trans x1
  have y1 : (W3.alloc (Obj.cells #[Value.slice aa A.length ac] 23)).cell? ⟨w.heap.size, 2, none⟩ = some (Value.int .i64 dn) := (((Below.refl _ W3).alloc (Nat.le_refl _) _).cell (p := ⟨w.heap.size, 2, none⟩) (by show w.heap.size < W3.heap.size; omega)).trans x2
  gi_wp2_with (refine ⟨trivial, ?_⟩; gi_at_call 41; refine (Try.back_in _ _ _ _ _).mono ?_; rintro e w' ⟨rfl, rfl⟩)
  have hrd : ∀ W, Below w.heap.size w W → ∀ b off, ma = some ⟨b, off, none⟩ → ∀ j, j < dn → W.cell? ⟨b, off + j * 3, none⟩ = some (.int .i64 (M[j]?.getD (0, 0, 0)).1) ∧ W.cell? ⟨b, off + j * 3 + 1, none⟩ = some (.int .i64 (M[j]?.getD (0, 0, 0)).2.1) ∧ W.cell? ⟨b, off + j * 3 + 2, none⟩ = some (.int .i64 (M[j]?.getD (0, 0, 0)).2.2) := by
    intro W hb b off he j hj
    obtain ⟨r1, r2, r3⟩ := (rep_rows3 (rep_below rm hF0 hb)).2 b off he j (by omega)
    exact ⟨r1.2, r2.2, r3.2⟩
  let Inv : Nat → World → Prop := fun k W => ∃ (F : CellSet) (v : Value) (now : List Int), (∀ b j, F b j → b < W.heap.size ∧ b ≠ w.heap.size ∧ b ≠ w.heap.size + 1 ∧ b ≠ W3.heap.size ∧ b ≠ W3.heap.size + 1) ∧ RepL W F v (LI now) ∧
    G ((M.take k).reverse) now = some r ∧ W.cell? ⟨W3.heap.size, 0, none⟩ = some v ∧ W.frozen? ⟨W3.heap.size, 0, none⟩ = false ∧ GS w W (.slice aa A.length ac) (.slice ma M.length mc) dn un ∧ W.cell? ⟨W3.heap.size + 1, 0, none⟩ = some (.slice ma dn mc) ∧ W3.heap.size + 2 ≤ W.heap.size
  have hInvB : ∀ k W W', Inv k W → Book (W3.heap.size + 2) W W' → Inv k W' := by
    rintro k W W' ⟨F, v, now, e1, e2, e3, e4, e5, e6, e7, e8⟩ hb
    exact ⟨F, v, now, fun b j hf => ⟨Nat.lt_of_lt_of_le (e1 b j hf).1 hb.below.size, (e1 b j hf).2⟩, e2.mono (fun _ _ x => x) (fun b k _ => hb.cell _), e3, (hb.cell _).trans e4, (hb.frz _).trans e5, e6.book (by omega) hb, (hb.cell _).trans e7, Nat.le_trans e8 hb.below.size⟩
  have hInvC : ∀ k W W', Inv k W → Below W.heap.size W W' → Inv k W' := by
    rintro k W W' ⟨F, v, now, e1, e2, e3, e4, e5, e6, e7, e8⟩ hb
    exact ⟨F, v, now, fun b j hf => ⟨Nat.lt_of_lt_of_le (e1 b j hf).1 hb.size, (e1 b j hf).2⟩, rep_below e2 (fun b j hf => (e1 b j hf).1) hb, e3, (hb.cell (p := ⟨W3.heap.size, 0, none⟩) (by show W3.heap.size < W.heap.size; omega)).trans e4, (hb.frozen (p := ⟨W3.heap.size, 0, none⟩) (by show W3.heap.size < W.heap.size; omega)).trans e5, e6.next hb, (hb.cell (p := ⟨W3.heap.size + 1, 0, none⟩) (by show W3.heap.size + 1 < W.heap.size; omega)).trans e7, Nat.le_trans e8 hb.size⟩
  refine Try.range_w (len := dn) (cap := mc) (ad := ma) (Bs := W3.heap.size + 1) (zs := fun j => M[j]?.getD (0, 0, 0)) (by omega) rfl ?had Inv
    (fun W => GS w W (.slice aa A.length ac) (.slice ma M.length mc) dn un ∧ r = false ∧ W3.heap.size + 2 ≤ W.heap.size)
    (fun k W a1 => Inv (k + 1) W ∧ ∃ p, p < W.heap.size ∧ W3.heap.size + 4 ≤ p ∧ a1 = (⟨#[Value.agg #[Value.slice aa A.length ac, Value.slice ma M.length mc, Value.int IntKind.i64 ↑dn, Value.bool un],
          Value.pointer (some { block := w.heap.size, off := 0 }),
          Value.pointer (some { block := w.heap.size + 1, off := 0 }), Value.bool false,
          Value.pointer (some { block := W3.heap.size, off := 0 }), undef, Value.pointer (some ⟨p, 0, none⟩), undef, undef,
          Value.pointer (some { block := w.heap.size, off := 1 }), Value.slice ma M.length mc,
          Value.func (Fn.func 37) #[] #[Value.pointer (some { block := w.heap.size, off := 0 })], Value.bool false,
          Value.pointer (some { block := w.heap.size, off := 0 }), Value.slice aa A.length ac, Value.bool true,
          Value.bool false, Value.bool false, Value.pointer (some { block := w.heap.size, off := 1 }),
          Value.slice ma M.length mc, Value.int IntKind.i64 ↑M.length, Value.bool (decide ((20 : Int) < ↑M.length)),
          Value.bool (decide ((20 : Int) < ↑M.length)), Value.bool (decide ((20 : Int) < ↑M.length)), Value.bool false,
          Value.bool (decide ((20 : Int) < ↑M.length)), Value.bool (decide ((20 : Int) < ↑M.length)),
          Value.pointer (some { block := w.heap.size, off := 2 }), Value.int IntKind.i64 ↑dn,
          Value.pointer (some { block := w.heap.size, off := 1 }), Value.slice ma M.length mc,
          Value.int IntKind.i64 ↑M.length, Value.bool true, Value.bool false, Value.bool (decide ((20 : Int) < ↑M.length)),
          Value.pointer (some { block := w.heap.size, off := 0 }), Value.slice aa A.length ac,
          Value.pointer (some { block := w.heap.size, off := 1 }), Value.slice ma M.length mc,
          Value.pointer (some { block := w.heap.size, off := 2 }), Value.int IntKind.i64 ↑dn, Value.slice ma dn mc,
          Value.func (Fn.func 68) #[] #[Value.pointer (some { block := W3.heap.size + 1, off := 0 })], Value.int IntKind.i64 (k : Int), Mv3 (M[k]?.getD (0, 0, 0)),
          undef, undef, undef, undef, undef, undef, undef, undef, undef, undef], []⟩ : Act) ∧ W.cell? ⟨p, 0, none⟩ = some (.int .i64 (M[k]?.getD (0, 0, 0)).1) ∧ W.cell? ⟨p, 1, none⟩ = some (.int .i64 (M[k]?.getD (0, 0, 0)).2.1) ∧ W.cell? ⟨p, 2, none⟩ = some (.int .i64 (M[k]?.getD (0, 0, 0)).2.2))
    ?hI ?hX ?hA ?hread ?h0 ?hassign ?hbody ?hdone ?hstop
  case had => intro h; exact (rep_rows3 rm).1 (by omega)
  case hI => simp only [World.size_alloc]; exact hInvB
  case hX =>
    simp only [World.size_alloc]
    rintro W W' ⟨x1, x2, x3⟩ hb
    exact ⟨x1.book (by omega) hb, x2, Nat.le_trans x3 hb.below.size⟩
  case hA =>
    simp only [World.size_alloc]
    rintro k W W' a1 ⟨x1, p, x2, x3, x4, x5, x6, x7⟩ hb
    exact ⟨hInvB _ _ _ x1 hb, p, Nat.lt_of_lt_of_le x2 hb.below.size, x3, x4, (hb.cell _).trans x5, (hb.cell _).trans x6, (hb.cell _).trans x7⟩
  case hread =>
    rintro k W ⟨F, v, now, e1, e2, e3, e4, e5, e6, e7, e8⟩
    exact ⟨e7, hrd W e6.below⟩
  case h0 =>
    have hbN : Below W3.heap.size W3 ((W3.alloc (Obj.cells #[Value.slice aa A.length ac] 23)).alloc (Obj.cells #[Value.slice ma dn mc] 24)) := ((Below.refl _ W3).alloc (Nat.le_refl _) _).alloc (by simp) _
    refine ⟨F0, .slice aa A.length ac, A, fun b j hf => ?_, rep_below ra hF0 (g3.below.trans (hbN.mono (by omega))), by simpa using hG0 (by first | rfl | trivial) (by omega) (by first | rfl | trivial) (by first | rfl | trivial), by simp [go_sem], by simp [go_sem], g3.next hbN, by simp [go_sem], by simp⟩
    have := hF0 b j hf
    simp only [World.size_alloc]
    omega
  case hassign =>
    intro l k W K hk hi hz hK
    gi_wp2
    simp only [World.size_alloc] at hz
    refine hK _ _ ⟨hInvC _ _ _ hi ((Below.refl _ W).alloc (Nat.le_refl _) _), W.heap.size, by simp, by omega, rfl, by simp [go_sem], by simp [go_sem], by simp [go_sem]⟩ (by simp; omega) (fun i h1 h2 => Below.heap_alloc _ _ _ (by simp at h1; omega))
  case hbody =>
    rintro l k W a1 hk ⟨⟨F, v, now, e1, e2, e3, e4, e5, e6, e7, e8⟩, p, hp, hp2, rfl, m0, m1, m2⟩ hz
    have e3' := e3
    rw [List.take_add_one, List.getElem?_eq_getElem (by omega : k < M.length), Option.toList_some, List.reverse_append, List.reverse_singleton, List.singleton_append] at e3'
    obtain ⟨c, hMV, hc1, hc2⟩ := hG _ _ _ e3'
    have hmk : M[k]?.getD (0, 0, 0) = M[k] := by rw [List.getElem?_eq_getElem (by omega : k < M.length)]; rfl
    rw [← hmk] at hMV
    obtain ⟨va, vc, rfl⟩ := rep_slice e2
    simp only [World.size_alloc] at hz
    refine Try.gs_body l (w.heap.size + 1) W3.heap.size p W F va _ vc (LI now) (M[k]?.getD (0, 0, 0)) c _ _ _ _ _ _ _ _ _ _ _ _ _ _ _ _ _ _ _ _ _ _ _ _ _ _ _ _ _ _ _ _ _ _ _ _ _ _ _ _ _ _ _ _ _ _ _ _ _ _ _ _ _ (by omega) (by omega) e4 e5 e6.r0 e6.rf m0 m1 m2 (fun b j hf => (e1 b j hf).1) e2 hMV (fun W => hBK _ W) ?_ ?_
    · intro hc a w2 v' F' hb hF' hr'
      refine ⟨by simpa [World.setCell] using Nat.le_trans hz hb.size, ?_, ?_⟩
      · intro i h1 h2
        simp only [World.size_alloc] at h1 h2
        exact ((grownBy_setCell' w2 W3.heap.size _).block i (by have := hb.size; omega) (by intro e; injection e with e; omega)).trans (hb.block i (by omega))
      · have hnF : ∀ b j, F' b j → b ≠ W3.heap.size := fun b j h => by have := (hF' b j h).1; omega
        exact ⟨F', v', c.1, fun b j h => ⟨by simpa using (hF' b j h).2, by have := (hF' b j h).1; omega⟩, hr'.mono (fun _ _ x => x) fun b j h => World.cell?_setCell_other _ _ _ _ (by intro e; cases e; exact hnF _ _ h rfl), hc1 hc, World.cell?_setCell_same _ _ _ ((hb.cell (p := ⟨W3.heap.size, 0, none⟩) (by show W3.heap.size < W.heap.size; omega)).trans e4), by rw [World.frozen?_setCell]; exact (hb.frozen (p := ⟨W3.heap.size, 0, none⟩) (by show W3.heap.size < W.heap.size; omega)).trans e5,
          (e6.next hb).set (by omega), (World.cell?_setCell_other _ _ _ _ (by intro e; injection e with e; omega)).trans ((hb.cell (p := ⟨W3.heap.size + 1, 0, none⟩) (by show W3.heap.size + 1 < W.heap.size; omega)).trans e7), by simpa using Nat.le_trans e8 hb.size⟩
    · intro hc a w2 hb
      refine ⟨by simpa [World.setCell] using Nat.le_trans hz hb.size, ?_, ?_⟩
      · intro i h1 h2
        simp only [World.size_alloc] at h1 h2
        exact ((grownBy_setCell' w2 (w.heap.size + 1) _).block i (by have := hb.size; omega) (by intro e; injection e with e; omega)).trans (hb.block i (by omega))
      · exact ⟨(e6.next hb).setR, hc2 hc, by simpa using Nat.le_trans e8 hb.size⟩
  case hdone =>
    rintro W ⟨F, v, now, e1, e2, e3, e4, e5, e6, e7, e8⟩ hK
    obtain rfl := hGn now (by simpa using e3)
    obtain ⟨r0, rf⟩ := And.intro e6.r0 e6.rf
    gi_wp2
    simp only [World.size_alloc] at hK ⊢
    have hK' := (KeepsOthers.setCell W ⟨w.heap.size + 1, 0, none⟩ (.bool true)).same _ _ hK rfl
    refine ⟨by simp, .inl ⟨_, _, rfl, run_takeDeferred hK', ?_⟩⟩
    have hc5 := cell_kept (World.cell?_setCell_same' W ⟨w.heap.size + 1, 0, none⟩ (.bool true) (by rw [r0]; rfl)) (grownBy_putObj' _ (W3.heap.size + 1 + 1) (.deferred none)) (fun r e => by cases e; exact ⟨_, hK', rfl⟩)
    refine ⟨.bool true, ?_, rfl, (e6.below.setCell (p := ⟨w.heap.size + 1, 0, none⟩) (by show _ ≤ w.heap.size + 1; omega) _).trans (book_put (by omega) hK' rfl rfl).below⟩
    simp [results, Try.f18, go_sem, hc5]
  case hstop =>
    rintro W ⟨x1, rfl, x3⟩ hK
    have r0 := x1.r0
    simp only [World.size_alloc] at hK ⊢
    refine ⟨by simp, .inl ⟨_, _, rfl, run_takeDeferred hK, ?_⟩⟩
    have hc5 := cell_kept r0 (grownBy_putObj' _ (W3.heap.size + 1 + 1) (.deferred none)) (fun r e => by cases e; exact ⟨_, hK, rfl⟩)
    refine ⟨.bool false, ?_, rfl, x1.below.trans (book_put (by omega) hK rfl rfl).below⟩
    simp [results, Try.f18, go_sem, hc5]
end Go.Proofs

/- Cuts of strings and slices. -/
import Derived.Test.YtoabnifimfcbcaaTlOps2
set_option linter.unusedSimpArgs false
set_option linter.unusedVariables false
namespace Go.TL
open Go

/-- A bound of a cut. -/
def bnd (T : List (Nat × LV)) : Option Operand → Option (Option (IntKind × Int))
  | none => some none
  | some x => match sc? (ev T x) with
    | some (.int k n) => some (some (k, n))
    | _ => none

def bv (x : Option (IntKind × Int)) : Option Value := x.map fun p => .int p.1 p.2
def lowOf (x : Option (IntKind × Int)) : Int := match x with | some p => p.2 | none => 0
def highOf (x : Option (IntKind × Int)) (n : Int) : Int := match x with | some p => p.2 | none => n

section
variable {P : Program} {s : St}

theorem bnd_ok {w0 w : World} {W0 : Fr} {c : Ctx} {a : Act} (hr : Rel w0 W0 c s a w) {x : Option Operand} {b : Option (IntKind × Int)} (h : bnd s.T x = some b) : x.map a.eval = bv b := by
  cases x with
  | none => cases h; rfl
  | some x =>
    simp only [bnd] at h
    split at h
    · rename_i k n hx
      cases h
      simp [bv, (sc_of hx (ev_ok hr x)).1]
    · cases h

/-- The bounds, where they are in order. -/
theorem run_bounds {isS : Bool} {len cap : Nat} {lo hi mx : Option (IntKind × Int)} {w : World} (hc : len ≤ cap) (h0 : 0 ≤ lowOf lo) (h1 : lowOf lo ≤ highOf hi len) (h2 : highOf hi len ≤ highOf mx cap) (h3 : highOf mx cap ≤ cap) (hm : mx.isSome = true → hi.isSome = true) :
    (Instr.sliceBounds isS len cap (bv lo) (bv hi) (bv mx)).run P w = .ok ((lowOf lo).toNat, (highOf hi len).toNat, (highOf mx cap).toNat) w := by
  unfold Instr.sliceBounds
  cases mx with
  | none =>
    cases hi with
    | none =>
      cases lo with
      | none => simp [bv, lowOf, highOf]
      | some l =>
        simp only [lowOf, highOf] at *
        simp [bv, run_sliceBound, h0, (by omega : l.2 ≤ (len : Int))]
    | some h =>
      cases lo with
      | none =>
        simp only [lowOf, highOf] at *
        simp [bv, run_sliceBound, h1, h2]
      | some l =>
        simp only [lowOf, highOf] at *
        have e : ((h.2.toNat : Nat) : Int) = h.2 := Int.toNat_of_nonneg (by omega)
        simp [bv, run_sliceBound, h0, h2, e, h1, (by omega : 0 ≤ h.2)]
  | some m =>
    cases hi with
    | none => simp at hm
    | some h =>
      have em : ((m.2.toNat : Nat) : Int) = m.2 := by simp only [lowOf, highOf] at *; exact Int.toNat_of_nonneg (by omega)
      have eh : ((h.2.toNat : Nat) : Int) = h.2 := by simp only [lowOf, highOf] at *; exact Int.toNat_of_nonneg (by omega)
      cases lo with
      | none =>
        simp only [lowOf, highOf] at *
        simp [bv, run_sliceBound, h1, h2, h3, em, (by omega : 0 ≤ m.2)]
      | some l =>
        simp only [lowOf, highOf] at *
        simp [bv, run_sliceBound, h0, h1, h2, h3, em, eh, (by omega : 0 ≤ m.2), (by omega : 0 ≤ h.2)]

theorem does_cut_str {t : Nat} {e : TE} {x : Operand} {lo hi : Option Operand} {b : ByteArray} {l h : Option (IntKind × Int)} (ht : OkT P t e) (hs : e.sh = .str) (hx : sc? (ev s.T x) = some (.string b)) (hl : bnd s.T lo = some l) (hh : bnd s.T hi = some h) :
    Does P (.slice t x lo hi none) s ⟨0 ≤ lowOf l ∧ lowOf l ≤ highOf h b.size ∧ highOf h b.size ≤ b.size, .lf false (.sc (.string (b.extract (lowOf l).toNat (highOf h b.size).toNat))), s.H, s.nx⟩ := by
  refine .quiet rfl rfl fun w0 W0 c a w hr ⟨h0, h1, h2⟩ => ?_
  have hx' := (sc_of hx (ev_ok hr x)).1
  have el := bnd_ok hr hl
  have eh := bnd_ok hr hh
  refine ⟨_, fun o ho => ?_, .lf (.sc rfl)⟩
  unfold execOp
  rw [ho]
  have hb := run_bounds (P := P) (isS := false) (len := b.size) (cap := b.size) (lo := l) (hi := h) (mx := none) (w := w) (Nat.le_refl _) h0 h1 (by simpa [highOf] using h2) (by simp [highOf]) (by simp)
  simp only [bv, Option.map_none] at hb
  simp only [hx', el, eh, Option.map_none, Instr.sliceAt, Sem.run_bind, run_und (ht.str hs), Result.andThen_ok, Instr.slice, Option.isSome_none, Bool.false_eq_true, if_false, bv, hb, Sem.run_pure, Sem.run_ite]

theorem rep_cut {w : World} {S : CellSet} {a : Option Addr} {len cap : Nat} {rows : List (List Leaf)} (hr : RepL w S (.slice a len cap) (.sl rows)) {l h m size : Nat} (hlh : l ≤ h) (hh : h ≤ rows.length) (hm : h ≤ m) (hmc : m ≤ cap) (hes : 0 < l → ∀ r ∈ rows, r.length = size) :
    RepL w S (.slice (if m = l then a else a.map (·.add (l * size))) (h - l) (m - l)) (.sl ((rows.drop l).take (h - l))) := by
  by_cases he : h - l = 0
  · rw [he, List.take_zero]; exact .nil
  generalize hL : Leaf.sl rows = L at hr
  cases hr with
  | sc hs => cases hL
  | nil => cases hL; simp at hh; omega
  | sl cs hes' hcap hS hrp =>
    cases hL
    rename_i b off es
    have hml : ¬ m = l := by omega
    rw [if_neg hml]
    have hsz : l * size = l * es := by
      rcases Nat.eq_zero_or_pos l with h0 | h0
      · rw [h0]; simp
      · have h1 := hes h0 (rows[l]) (List.getElem_mem (by omega))
        have h2 := hes' (rows[l]) (List.getElem_mem (by omega))
        rw [← h1, h2]
    simp only [Option.map_some, add_none, hsz]
    have hlen : ((rows.drop l).take (h - l)).length = h - l := by simp; omega
    have := @RepL.sl w S b (off + l * es) (m - l) es ((rows.drop l).take (h - l)) (fun i j => cs (l + i) j) (fun r hr => hes' r (List.mem_of_mem_drop (List.mem_of_mem_take hr))) (by omega)
      (fun i j hi hj => by
        have := hS (l + i) j (by omega) hj
        rw [Nat.add_mul, Nat.add_assoc (l * es)] at this
        rw [Nat.add_assoc]
        exact this)
      (fun i j hi hj => by
        simp only [List.getElem_take, List.getElem_drop]
        exact hrp (l + i) j (by omega) (by simpa using hj))
    rw [hlen] at this
    exact this

theorem does_cut_lf {t el : Nat} {e ee : TE} {x : Operand} {lo hi : Option Operand} {tt : Bool} {rows : List (List Leaf)} {l h : Option (IntKind × Int)} (ht : OkT P t e) (hs : e.sh = .slice el) (he : OkT P el ee) (hx : ev s.T x = .lf tt (.sl rows))
    (hl : bnd s.T lo = some l) (hh : bnd s.T hi = some h) :
    Does P (.slice t x lo hi none) s ⟨(0 ≤ lowOf l ∧ lowOf l ≤ highOf h rows.length ∧ highOf h rows.length ≤ rows.length) ∧ (0 < lowOf l → ∀ r ∈ rows, r.length = ee.size),
      .lf tt (.sl ((rows.drop (lowOf l).toNat).take ((highOf h rows.length).toNat - (lowOf l).toNat))), s.H, s.nx⟩ := by
  refine .quiet rfl rfl fun w0 W0 c a w hr ⟨⟨h0, h1, h2⟩, hes⟩ => ?_
  have hx' := ev_ok hr x
  rw [hx] at hx'
  have ebl := bnd_ok hr hl
  have ebh := bnd_ok hr hh
  generalize hxv : a.eval x = xv at hx'
  cases hx' with
  | lf hrep =>
    have hsh : ∃ ad cap, xv = .slice ad rows.length cap ∧ rows.length ≤ cap := by
      generalize hL : Leaf.sl rows = L at hrep
      cases hrep with
      | sc hs => cases hL
      | nil => cases hL; exact ⟨_, _, rfl, Nat.zero_le _⟩
      | sl cs hes' hcap hS hrp => cases hL; exact ⟨_, _, rfl, hcap⟩
    obtain ⟨ad, cap, rfl, hcap⟩ := hsh
    refine ⟨_, fun o ho => ?_, .lf (rep_cut hrep (l := (lowOf l).toNat) (h := (highOf h rows.length).toNat) (m := cap) (size := ee.size) (by omega) (by omega) (by omega) (Nat.le_refl _) fun h => hes (by omega))⟩
    unfold execOp
    rw [ho]
    have hb := run_bounds (P := P) (isS := true) (len := rows.length) (cap := cap) (lo := l) (hi := h) (mx := none) (w := w) hcap h0 h1 (by simp only [highOf] at *; omega) (by simp [highOf]) (by simp)
    simp only [bv, Option.map_none, highOf, Int.toNat_natCast] at hb
    simp only [hxv, ebl, ebh, Option.map_none, Instr.sliceAt, Sem.run_bind, run_und (ht.slice hs), Result.andThen_ok, Instr.slice, bv, hb, he.runSize, Sem.run_pure, highOf]

theorem does_cut_os {t el : Nat} {e ee : TE} {x : Operand} {lo hi mx : Option Operand} {id es o0 len mc : Nat} {ex : Bool} {l h m : Option (IntKind × Int)} (ht : OkT P t e) (hs : e.sh = .slice el) (he : OkT P el ee) (hes : ee.size = es) (hx : ev s.T x = .os id es o0 len mc ex)
    (hl : bnd s.T lo = some l) (hh : bnd s.T hi = some h) (hm : bnd s.T mx = some m) (hm2 : m.isSome = true → h.isSome = true) :
    Does P (.slice t x lo hi mx) s ⟨0 ≤ lowOf l ∧ lowOf l ≤ highOf h len ∧ highOf h len ≤ highOf m (max len mc) ∧ highOf m (max len mc) ≤ max len mc,
      .os id es (o0 + (lowOf l).toNat) ((highOf h len).toNat - (lowOf l).toNat) ((highOf m (max len mc)).toNat - (lowOf l).toNat) (ex || m.isSome), s.H, s.nx⟩ := by
  refine .quiet rfl rfl fun w0 W0 c a w hr ⟨h0, h1, h2, h3⟩ => ?_
  have hx' := ev_ok hr x
  rw [hx] at hx'
  have ebl := bnd_ok hr hl
  have ebh := bnd_ok hr hh
  have ebm := bnd_ok hr hm
  generalize hxv : a.eval x = xv at hx'
  cases hx' with
  | os hid hln hmc hex ha hn =>
    rename_i cap ad
    have hmx : highOf m (max len mc) ≤ highOf m cap ∧ highOf m cap ≤ cap := by
      cases m with
      | none => simp only [highOf] at *; omega
      | some p => simp only [highOf] at *; omega
    refine ⟨.slice (if (highOf m cap).toNat = (lowOf l).toNat then ad else ad.map (·.add ((lowOf l).toNat * es))) ((highOf h len).toNat - (lowOf l).toNat) ((highOf m cap).toNat - (lowOf l).toNat), fun o ho => ?_, ?_⟩
    · unfold execOp
      rw [ho]
      have hb := run_bounds (P := P) (isS := true) (len := len) (cap := cap) (lo := l) (hi := h) (mx := m) (w := w) hln h0 h1 (by omega) hmx.2 hm2
      simp only [hxv, ebl, ebh, ebm, Instr.sliceAt, Sem.run_bind, run_und (ht.slice hs), Result.andThen_ok, Instr.slice, hb, he.runSize, Sem.run_pure, hes]
    · refine .os hid (by omega) (by omega) (fun hx => ?_) ?_ ?_
      · rw [Bool.or_eq_true] at hx
        rcases hx with hx | hx
        · have := hex hx
          cases m with
          | none => simp only [highOf] at *; omega
          | some p => simp only [highOf] at *
        · cases m with
          | none => simp at hx
          | some p => simp only [highOf] at *
      · by_cases hz : (highOf m cap).toNat - (lowOf l).toNat = 0
        · exact .inl hz
        · right
          rcases ha with hc0 | rfl
          · omega
          · rw [if_neg (by omega)]
            simp only [Option.map_some, add_none, Nat.add_mul, Nat.add_assoc]
      · have hle : (lowOf l).toNat + ((highOf m cap).toNat - (lowOf l).toNat) ≤ cap := by omega
        have := Nat.mul_le_mul_right es hle
        rw [Nat.add_mul] at this
        rw [Nat.add_mul]
        omega

/-- A cut of an empty slice that has no room. -/
theorem does_cut_nl {t el : Nat} {e ee : TE} {x : Operand} {lo hi mx : Option Operand} {l h m : Option (IntKind × Int)} (ht : OkT P t e) (hs : e.sh = .slice el) (he : OkT P el ee) (hx : ev s.T x = .nl)
    (hl : bnd s.T lo = some l) (hh : bnd s.T hi = some h) (hm : bnd s.T mx = some m) (hm2 : m.isSome = true → h.isSome = true) : Does P (.slice t x lo hi mx) s ⟨lowOf l = 0 ∧ highOf h 0 = 0 ∧ highOf m 0 = 0, .nl, s.H, s.nx⟩ := by
  refine .quiet rfl rfl fun w0 W0 c a w hr ⟨h0, h1, h2⟩ => ?_
  have hx' := ev_ok hr x
  rw [hx] at hx'
  have ebl := bnd_ok hr hl
  have ebh := bnd_ok hr hh
  have ebm := bnd_ok hr hm
  generalize hxv : a.eval x = xv at hx'
  cases hx' with
  | nl ad =>
    refine ⟨.slice ad 0 0, fun o ho => ?_, .nl _⟩
    unfold execOp
    rw [ho]
    have hb := run_bounds (P := P) (isS := true) (len := 0) (cap := 0) (lo := l) (hi := h) (mx := m) (w := w) (Nat.le_refl _) (by omega) (by simp; omega) (by simp; omega) (by simp; omega) hm2
    simp only [Int.natCast_zero] at hb
    simp only [hxv, ebl, ebh, ebm, Instr.sliceAt, Sem.run_bind, run_und (ht.slice hs), Result.andThen_ok, Instr.slice, hb, he.runSize, Sem.run_pure, h0, h1, h2]
    simp

/-- 'x[:0:0]': empty, without room. -/
theorem does_cut_none {t el : Nat} {e ee : TE} {x : Operand} {lo hi mx : Option Operand} {l h m : Option (IntKind × Int)} {n : Int} (ht : OkT P t e) (hs : e.sh = .slice el) (he : OkT P el ee) (hx : lenLV (ev s.T x) = some n)
    (hl : bnd s.T lo = some l) (hh : bnd s.T hi = some h) (hm : bnd s.T mx = some m) (h0 : lowOf l = 0) (h1 : ∃ k, h = some (k, 0)) (h2 : ∃ k, m = some (k, 0)) (hns : ∀ b, sc? (ev s.T x) ≠ some (.string b)) : Does P (.slice t x lo hi mx) s ⟨True, .nl, s.H, s.nx⟩ := by
  refine .quiet rfl rfl fun w0 W0 c a w hr _ => ?_
  obtain ⟨k1, rfl⟩ := h1
  obtain ⟨k2, rfl⟩ := h2
  have hx' := ev_ok hr x
  have ebl := bnd_ok hr hl
  have ebh := bnd_ok hr hh
  have ebm := bnd_ok hr hm
  have hsh : ∃ ad len cap, a.eval x = .slice ad len cap ∧ len ≤ cap := by
    generalize a.eval x = v at hx'
    generalize ev s.T x = lv at hx hx' hns
    unfold lenLV at hx
    split at hx
    · exact absurd rfl (hns _)
    · cases hx' with
      | lf hr => cases hr with
        | nil => exact ⟨_, _, _, rfl, Nat.zero_le _⟩
        | sl cs hes' hcap hS hrp => exact ⟨_, _, _, rfl, hcap⟩
    · cases hx' with
      | nl ad => exact ⟨_, _, _, rfl, Nat.le_refl _⟩
    · cases hx' with
      | os hid hln hmc hex ha hn => exact ⟨_, _, _, rfl, hln⟩
    · cases hx
  obtain ⟨ad, len, cap, hv, hlc⟩ := hsh
  refine ⟨.slice ad 0 0, fun o ho => ?_, .nl _⟩
  unfold execOp
  rw [ho]
  have hb := run_bounds (P := P) (isS := true) (len := len) (cap := cap) (lo := l) (hi := some (k1, 0)) (mx := some (k2, 0)) (w := w) hlc (by omega) (by simp [highOf]; omega) (by simp [highOf]) (by simp [highOf]) (by simp)
  simp only [hv, ebl, ebh, ebm, Instr.sliceAt, Sem.run_bind, run_und (ht.slice hs), Result.andThen_ok, Instr.slice, hb, he.runSize, Sem.run_pure, h0, highOf]
  simp
end
end Go.TL

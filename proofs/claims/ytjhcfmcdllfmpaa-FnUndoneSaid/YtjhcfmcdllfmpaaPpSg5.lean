import Derived.Test.YtjhcfmcdllfmpaaPpSg4
set_option linter.unusedSimpArgs false
set_option linter.unusedVariables false
set_option linter.unusedVariables false
set_option linter.unusedSimpArgs false
set_option maxRecDepth 4000
namespace Go.TL
theorem among_u {β : Type} {f : Int × l1CurT → Option β} {Q : β → Prop} {c : l1CurT} {K : Int} {l : List Int} (h : cur c K) (hK : K ≤ 4611686018427387000) (hn : 1 ≤ l.length ∧ l.length ≤ 1000)
    (hf : ∀ x c', cur c' (K + 2) → okO Q (f (x, c'))) : okO Q ((spec_l1Cur_among_ow c l).bind f) := by
  unfold spec_l1Cur_among_ow
  refine okO.bind_bind (pick_b h hK (by omega) fun x c' h1 h2 h3 h4 => ?_)
  exact okO.bind_guard ⟨h1, by have := h3 (by omega); omega⟩ (okO.bind_some (hf _ _ h4))
def szSg (a : List Int) (m : List MoveT) : Prop := 1 ≤ a.length ∧ a.length ≤ 100 ∧ m.length ≤ 100
theorem good_sz {s : SagaT} (h : GoodSg s) : szSg s.Accounts s.Moves := ⟨h.len.1, by have := h.len.2; omega, by have := h.mlen; omega⟩
theorem saga_ok {c : l1CurT} {K : Int} (h : cur c K) (hK : K ≤ 1000) : okO (fun r => szSg r.1.Accounts r.1.Moves ∧ cur r.2 (K + 1000)) (spec_l1Cur_saga_o c) := by
  unfold spec_l1Cur_saga_o
  refine pick_b h (by omega) (by omega) fun x1 c1 p1 _ q1 h1 => ?_
  have q1 := q1 (by omega)
  refine okO.bind (P := fun y : spec_l1Cur_saga_o_P1_0 => (1 ≤ y.c2.length ∧ y.c2.length ≤ 4) ∧ cur ⟨y.b0_0, y.b0_1, y.b0_2⟩ (K + 10)) (okO.loop (inv := fun g : spec_l1Cur_saga_o_G1 => 0 ≤ g.t4 ∧ 1 ≤ (g.c2.length : Int) + g.t4 ∧ (g.c2.length : Int) + g.t4 ≤ 4 ∧ cur ⟨g.b0_0, g.b0_1, g.b0_2⟩ (K + 2 + 2 * (4 - g.t4))) (fun g => g.t4.toNat) ?_ fun g hg => ?_) fun y1 hy1 => ?_
  · have e : wI (1 + x1) = 1 + x1 := wI_id (by omega)
    simp only [e]
    exact ⟨by omega, by simp; omega, by simp; omega, h1.up (by omega)⟩
  · obtain ⟨a1, a2, a3, a4⟩ := hg
    unfold spec_l1Cur_saga_o_L1
    refine okO.ite (fun ht => ?_) (fun ht => okO.some ?_)
    · have ht' : 0 < g.t4 := by simpa using ht
      refine pick_b a4 (by omega) (by omega) fun x c2 _ _ _ h2 => okO.guard (by omega) (okO.some ?_)
      have e : wI (g.t4 - 1) = g.t4 - 1 := wI_id (by omega)
      simp only [e]
      exact ⟨⟨by omega, by simp; omega, by simp; omega, h2.up (by omega)⟩, by omega⟩
    · have ht' : ¬ 0 < g.t4 := by simpa using ht
      exact ⟨⟨by simp only; omega, by simp only; omega⟩, a4.up (by omega)⟩
  obtain ⟨⟨l1, l2⟩, hc1⟩ := hy1
  refine pick_b hc1 (by omega) (by omega) fun x2 c2 p2 _ q2 h2 => ?_
  have q2 := q2 (by omega)
  refine okO.bind (P := fun p : spec_l1Cur_saga_o_J2031 => (0 ≤ p.t6 ∧ p.t6 ≤ 30) ∧ cur ⟨p.b0_0, p.b0_1, p.b0_2⟩ (K + 20)) (one_b h2 (by omega) (by omega) fun b c3 h3 => okO.ite (fun _ => pick_b h3 (by omega) (by omega) fun x4 c4 p4 _ q4 h4 => okO.some ?_) (fun _ => okO.some ⟨⟨by simp only; omega, by simp only; omega⟩, h3.up (by omega)⟩)) fun p14 hp14 => ?_
  · have q4 := q4 (by omega)
    have e : wI (20 + x4) = 20 + x4 := wI_id (by omega)
    simp only [e]
    exact ⟨⟨by omega, by omega⟩, h4.up (by omega)⟩
  obtain ⟨⟨t1, t2⟩, hc2⟩ := hp14
  refine okO.bind (P := fun y : spec_l1Cur_saga_o_P2_0 => y.c3.length ≤ 30 ∧ cur ⟨y.b0_0, y.b0_1, y.b0_2⟩ (K + 220)) (okO.loop (inv := fun g : spec_l1Cur_saga_o_G2 => 0 ≤ g.t6 ∧ (g.c3.length : Int) + g.t6 ≤ 30 ∧ cur ⟨g.b0_0, g.b0_1, g.b0_2⟩ (K + 20 + 6 * (30 - g.t6))) (fun g => g.t6.toNat) ?_ fun g hg => ?_) fun y2 hy2 => ?_
  · exact ⟨by simp only; omega, by simp; omega, hc2.up (by simp only; omega)⟩
  · obtain ⟨a1, a2, a4⟩ := hg
    unfold spec_l1Cur_saga_o_L2
    refine okO.ite (fun ht => ?_) (fun ht => okO.some ⟨by simp only; omega, a4.up (by omega)⟩)
    have ht' : 0 < g.t6 := by simpa using ht
    refine okO.ite (fun ht => ?_) (fun ht => okO.some ⟨by simp only; omega, a4.up (by omega)⟩)
    refine pick_b a4 (by omega) (by omega) fun x c5 _ _ _ h5 => ?_
    refine pick_b h5 (by omega) (by rw [wI_id (by omega)]; omega) fun x c6 _ _ _ h6 => okO.guard (by omega) ?_
    refine pick_b h6 (by omega) (by omega) fun x c7 _ _ _ h7 => okO.guard (by omega) (okO.some ?_)
    have e : wI (g.t6 - 1) = g.t6 - 1 := wI_id (by omega)
    simp only [e]
    exact ⟨⟨by omega, by simp; omega, h7.up (by omega)⟩, by omega⟩
  obtain ⟨l3, hc3⟩ := hy2
  rw [spec_NewSaga_eq _ _ (by omega) (by omega)]
  refine okO.bind_some ?_
  refine okO.bind (P := fun p : spec_l1Cur_saga_o_J2075 => szSg p.c3 p.c4) (okO.ite (fun _ => okO.some ⟨by simp only; omega, by simp only; omega, by simp only; omega⟩) (fun hb => okO.some ?_)) fun p74 hp74 => ?_
  · unfold newSg at hb ⊢
    split
    · exact ⟨by simp only; omega, by simp only; omega, by simp only; omega⟩
    · rename_i hn; rw [if_neg hn] at hb; cases hb
  refine pick_b hc3 (by omega) (by omega) fun x8 c8 p8 _ q8 h8 => ?_
  have q8 := q8 (by omega)
  refine okO.bind (P := fun y : spec_l1Cur_saga_o_P3_0 => szSg y.c3 y.c4 ∧ cur ⟨y.b0_0, y.b0_1, y.b0_2⟩ (K + 300)) (okO.loop (inv := fun g : spec_l1Cur_saga_o_G3 => 0 ≤ g.t11 ∧ g.t11 ≤ 6 ∧ szSg g.c3 g.c4 ∧ cur ⟨g.b0_0, g.b0_1, g.b0_2⟩ (K + 222 + 2 * (6 - g.t11))) (fun g => g.t11.toNat) ?_ fun g hg => ?_) fun y3 hy3 => ?_
  · exact ⟨by simp only; omega, by simp only; omega, hp74, h8.up (by simp only; omega)⟩
  · obtain ⟨a1, a2, a3, a4⟩ := hg
    have a3' := a3
    obtain ⟨s1, s2, s3⟩ := a3
    unfold spec_l1Cur_saga_o_L3
    refine okO.ite (fun ht => ?_) (fun ht => okO.some ⟨a3', a4.up (by omega)⟩)
    have ht' : 0 < g.t11 := by simpa using ht
    rw [spec_StepSaga_eq _ (by simp only; omega) (by simp only; omega)]
    refine okO.bind (P := fun p : spec_l1Cur_saga_o_J12090 => szSg p.c3 p.c4) (okO.bind_some (okO.ite (fun hb => okO.some ?_) (fun _ => okO.some a3'))) fun p97 hp97 => ?_
    · unfold stepSg at hb ⊢
      split
      · rename_i hn; exact good_sz (step_good (goodSg_iff.1 hn.1))
      · rename_i hn; rw [if_neg hn] at hb; cases hb
    have hp97' := hp97
    obtain ⟨z1, z2, z3⟩ := hp97
    rw [spec_Fail_eq _ (by simp only; omega) (by simp only; omega)]
    refine okO.bind_some ?_
    refine okO.bind (P := fun p : spec_l1Cur_saga_o_J14025 => (p.t101 = true → (failSg ⟨p97.c3, p97.c4, p97.b2_2, p97.b2_3⟩).2 = true) ∧ cur ⟨p.b0_0, p.b0_1, p.b0_2⟩ (K + 222 + 2 * (6 - (g.t11 - 1)))) (okO.ite (fun hb => one_b a4 (by omega) (by omega) fun b c9 h9 => okO.some ⟨fun _ => hb, h9.up (by omega)⟩) (fun _ => okO.some ⟨fun h => by simp at h, a4.up (by omega)⟩)) fun p100 hp100 => ?_
    obtain ⟨k1, k2⟩ := hp100
    have e : wI (g.t11 - 1) = g.t11 - 1 := wI_id (by omega)
    refine okO.ite (fun hb => okO.some ?_) (fun _ => okO.some ?_)
    · have hf := k1 hb
      unfold failSg at hf ⊢
      simp only [e]
      split
      · exact ⟨⟨by omega, by omega, hp97', k2⟩, by omega⟩
      · rename_i hn; rw [if_neg hn] at hf; cases hf
    · simp only [e]
      exact ⟨⟨by omega, by omega, hp97', k2⟩, by omega⟩
  obtain ⟨z, hc4⟩ := hy3
  have z' := z
  obtain ⟨z1, z2, z3⟩ := z
  refine pick_b hc4 (by omega) (by omega) fun x10 c10 p10 _ q10 h10 => ?_
  refine okO.ite (fun _ => okO.some ⟨z', h10.up (by omega)⟩) (fun _ => okO.ite (fun _ => ?_) (fun _ => okO.some ⟨z', h10.up (by omega)⟩))
  refine among_u h10 (by omega) (by simp) fun y c11 h11 => okO.guard (by omega) (okO.some ⟨⟨by simp only [List.length_set]; omega, by simp only [List.length_set]; omega, by simp only; omega⟩, h11.up (by omega)⟩)
theorem drawNew_ok (code : List Int) (h : ∀ y ∈ code, 0 ≤ y ∧ y ≤ 255) : okO (fun r => r.1.length ≤ 100 ∧ r.2.length ≤ 100) (spec_DrawNewSaga code) := by
  unfold spec_DrawNewSaga
  refine okO.bind (saga_ok (cur0 h) (by omega)) fun r hr => ?_
  obtain ⟨⟨z1, z2, z3⟩, hc⟩ := hr
  refine okO.bind (P := fun p : spec_DrawNewSaga_J4003 => p.t18 = true → 0 < r.1.Moves.length) (one_b hc (by omega) (by omega) fun b c2 h2 => okO.ite (fun _ => okO.some fun hh => ?_) (fun _ => okO.some fun hh => by cases hh)) fun p hp => ?_
  · simpa using hh
  refine okO.ite (fun hb => ?_) (fun _ => okO.some ⟨z2, z3⟩)
  have := hp hb
  exact okO.guard (by omega) (okO.guard (by omega) (okO.some ⟨z2, by simpa using z3⟩))
theorem drawStep_ok (code : List Int) (h : ∀ y ∈ code, 0 ≤ y ∧ y ≤ 255) : okO (fun r => r.Accounts.length ≤ 100 ∧ r.Moves.length ≤ 100) (spec_DrawStepSaga code) := by
  unfold spec_DrawStepSaga spec_DrawGoodSaga
  refine okO.bind (P := fun r => r.Accounts.length ≤ 100 ∧ r.Moves.length ≤ 100) (okO.bind (saga_ok (cur0 h) (by omega)) fun r hr => okO.some ⟨hr.1.2.1, hr.1.2.2⟩) fun r hr => okO.some hr

theorem fromP0 (a : List Int) (l : List MoveT) : fromP ⟨a, l, 0, false⟩ = some a := rfl
theorem newSg_good {a : List Int} {l : List MoveT} (h : (newSg a l).2 = true) : goodSg ⟨a, l, 0, false⟩ = true ∧ (newSg a l).1 = ⟨a, l, 0, false⟩ := by
  unfold newSg at h ⊢
  split
  · rename_i hg; exact ⟨hg, rfl⟩
  · rename_i hg; rw [if_neg hg] at h; cases h
theorem newSg_small (a : List Int) (l : List MoveT) : (newSg a l).1.Accounts.length ≤ 1000000 ∧ (newSg a l).1.Moves.length ≤ 1000000 := by
  unfold newSg
  split
  · rename_i hg
    have := (goodSg_iff.1 hg).small
    simp only at this ⊢
    omega
  · simp [zeroSg]
/-- What the run comes to. -/
structure RunS (a : List Int) (l : List MoveT) (f : Int) (x : SagaT) (n : Int) : Prop where
  good : goodSg x = true
  sum : sumI x.Accounts = sumI a
  mv : x.Moves = l
  end_ : (x.Undoing = true ∧ x.Done = 0 ∧ x.Accounts = a) ∨ (x.Undoing = false ∧ x.Done = (l.length : Int))
  cnt : 0 ≤ n ∧ n ≤ 2 * (l.length : Int) + 1
theorem runS_of {a : List Int} {l : List MoveT} (f : Int) (h : goodSg ⟨a, l, 0, false⟩ = true) : RunS a l f (runSg ⟨a, l, 0, false⟩ f).1 (runSg ⟨a, l, 0, false⟩ f).2.1 ∧ (runSg ⟨a, l, 0, false⟩ f).2.2 = true := by
  have hg := goodSg_iff.1 h
  unfold runSg
  rw [if_pos h]
  have hm := mu_le hg
  obtain ⟨e1, e2, e3⟩ := run_end 50 f ⟨a, l, 0, false⟩ 0 hg (by omega)
  have hgx := runP_good 50 f ⟨a, l, 0, false⟩ 0 hg
  have hfr := run_from 50 f ⟨a, l, 0, false⟩ 0 hg
  rw [fromP0] at hfr
  have hmv := runP_moves 50 f ⟨a, l, 0, false⟩ 0
  refine ⟨⟨goodSg_iff.2 hgx, run_sum 50 f _ 0 hg, hmv, ?_, by simp only; omega, ?_⟩, rfl⟩
  · rcases stop_iff e1 with ⟨q1, q2⟩ | ⟨q1, q2⟩
    · left
      refine ⟨q1, q2, ?_⟩
      unfold fromP at hfr
      rw [q2] at hfr
      simpa [undoP] using hfr
    · right
      exact ⟨q1, by rw [q2, hmv]⟩
  · have : mu ⟨a, l, 0, false⟩ ≤ 2 * l.length + 1 := by unfold mu; simp
    simp only
    omega
theorem fnUndone_holds' (a b : List Int) (hla : a.length ≤ 9223372036854775807) (hlb : b.length ≤ 9223372036854775807) (ha : ∀ y ∈ a, 0 ≤ y ∧ y ≤ 255) (hb : ∀ y ∈ b, 0 ≤ y ∧ y ≤ 255) : laws_FnUndone a b = some true := by
  have key : okO (fun r => r = true) (laws_FnUndone a b) := by
    unfold laws_FnUndone
    refine okO.ite (fun _ => okO.some rfl) (fun hc => ?_)
    refine okO.bind (drawNew_ok a ha) fun r hr => ?_
    obtain ⟨acc, l⟩ := r
    simp only at hr ⊢
    rw [impl_NewSaga_eq _ _ (by omega) (by omega), spec_NewSaga_eq _ _ (by omega) (by omega)]
    refine okO.bind_some (okO.bind_some ?_)
    obtain ⟨w1, w2⟩ := newSg_small acc l
    rw [sameSagas_eq _ w1 w2]
    simp only [beq_self_eq_true, Bool.not_true, Bool.false_eq_true, if_false, Option.bind_some]
    -- the second half
    have half : okO (fun r => r = true) ((spec_DrawStepSaga b).bind fun c303 =>
        ((impl_StepSaga c303).bind fun c308 =>
        ((spec_StepSaga c303).bind fun c309 =>
        (((if (!(c308.2 == c309.2)) = true then
            some (⟨true⟩ : laws_FnUndone_J4020)
          else
            ((laws_sameSagas c308.1 c309.1).bind fun c310 =>
            (if (!c310) = true then
              some (⟨true⟩ : laws_FnUndone_J4020)
            else
              ((impl_GoodSaga c303).bind fun c311 =>
              ((spec_GoodSaga c303).bind fun c312 =>
              some (⟨(!(c311 == c312))⟩ : laws_FnUndone_J4020)))))) : Option laws_FnUndone_J4020).bind fun p313 =>
        (if p313.t180 = true then
          some false
        else
          (if (!c308.2) = true then
            some (((c308.1.Accounts.length : Nat) : Int) == 0)
          else
            ((impl_SumIn c303).bind fun c314 =>
            ((impl_SumIn c308.1).bind fun c315 =>
            (if c314.2 = true then
              (if c315.2 = true then
                (if (c314.1 == c315.1) = true then
                  ((impl_GoodSaga c308.1).bind fun c316 =>
                  some c316)
                else
                  some false)
              else
                some false)
            else
              some false)))))))))  := by
      refine okO.bind (drawStep_ok b hb) fun u hu => ?_
      rw [impl_StepSaga_eq _ (by omega) (by omega), spec_StepSaga_eq _ (by omega) (by omega)]
      refine okO.bind_some (okO.bind_some ?_)
      obtain ⟨z1, z2⟩ := stepSg_small u
      rw [sameSagas_eq _ (by omega) (by omega), impl_GoodSaga_eq _ (by omega) (by omega), spec_GoodSaga_eq _ (by omega) (by omega)]
      simp only [beq_self_eq_true, Bool.not_true, Bool.false_eq_true, if_false, Option.bind_some]
      refine okO.ite (fun hn => okO.some ?_) (fun hn => ?_)
      · have hn' : (stepSg u).2 = false := by simpa using hn
        unfold stepSg at hn' ⊢
        split
        · rename_i hq; rw [if_pos hq] at hn'; cases hn'
        · rfl
      · have hn' : (stepSg u).2 = true := by simpa using hn
        have hq : goodSg u = true ∧ (stepSg u).1 = (stepP u).1 := by
          unfold stepSg at hn' ⊢
          split
          · rename_i hq; exact ⟨hq.1, rfl⟩
          · rename_i hq; rw [if_neg hq] at hn'; cases hn'
        obtain ⟨q1, q2⟩ := hq
        have hgu := goodSg_iff.1 q1
        have hgv := step_good hgu
        rw [q2, impl_SumIn_eq u q1, impl_SumIn_eq _ (goodSg_iff.2 hgv), impl_GoodSaga_eq _ (by have := hgv.small; omega) (by have := hgv.small; omega), goodSg_iff.2 hgv, step_sum hgu]
        simp only [Option.bind_some, beq_self_eq_true, if_true]
        exact okO.some rfl
    -- the first half
    obtain ⟨hv, ehv, hvt⟩ := half
    rw [ehv]
    cases hn : (newSg acc l).2
    · simp only [Bool.false_eq_true, if_false, Option.bind_some]
      exact okO.some hvt
    · obtain ⟨hg, he⟩ := newSg_good hn
      rw [he]
      simp only [if_true]
      refine okO.bind_bind (okO.bind (numberOf_ok b (by omega) hb) fun x hx => ?_)
      have ew : wI ((l.length : Int) + 2) = (l.length : Int) + 2 := wI_id (by omega)
      rw [ew]
      refine okO.bind_guard (by omega) ?_
      rw [impl_RunSaga_eq _ _ (by simp only; omega) (by simp only; omega)]
      simp only [Option.bind_some]
      generalize wI (x.tmod ((l.length : Int) + 2) - 1) = f
      obtain ⟨hS, hok⟩ := runS_of f hg
      generalize runSg ⟨acc, l, 0, false⟩ f = rr at hS hok
      obtain ⟨y, n, bb⟩ := rr
      simp only at hS hok
      subst hok
      have hgy := hS.good
      have hgy' := (goodSg_iff.1 hgy).small
      simp only
      rw [impl_IsOver_eq y (by omega) (by omega) hgy, impl_SumIn_eq _ hg, impl_SumIn_eq y hgy, hS.sum]
      have ew2 : wI (wI (2 * (l.length : Int)) + 1) = 2 * (l.length : Int) + 1 := by rw [wI_id (n := 2 * (l.length : Int)) (by omega), wI_id (by omega)]
      have hcnt : decide (n > 2 * (l.length : Int) + 1) = false := by have := hS.cnt; simp; omega
      simp only [Option.bind_some, ew2, hcnt, bne_self_eq_false, Bool.not_true, Bool.false_eq_true, if_false, hS.mv]
      rcases hS.end_ with ⟨q1, q2, q3⟩ | ⟨q1, q2⟩
      · rw [q1, q2, q3, sameInts_eq _ _ (by omega)]
        simp
        exact okO.some hvt
      · rw [q1, q2]
        simp
        exact okO.some hvt
  obtain ⟨x, e, rfl⟩ := key
  exact e
end Go.TL

import Derived.Test.YtmmhgioeoikgbaaTlT1
set_option linter.unusedSimpArgs false
set_option linter.unusedVariables false
namespace Go.TL.Ytmmhgioeoikgbaa
open Go Go.Proofs Go.TL

theorem okN_iff (v r : Int) : okN v r = true ↔ (0 ≤ v ∧ v ≤ 1000000) ∧ (0 ≤ r ∧ r ≤ 9) ∧ (0 ≤ step v r ∧ step v r ≤ 1000000) := by
  simp only [okN, Bool.and_eq_true, okV_iff, okR_iff, and_assoc]

theorem step_facts {v r : Int} (h1 : 0 ≤ v) (h2 : 0 ≤ r) (h3 : r ≤ 9) : v < step v r ∧ step v r ≤ v + 10 ∧ step v r % 10 = r ∧ ∀ k, v < k → k < step v r → k % 10 ≠ r := by
  unfold step
  split
  · refine ⟨by omega, by omega, by omega, fun k h4 h5 h6 => by omega⟩
  · refine ⟨by omega, by omega, by omega, fun k h4 h5 h6 => by omega⟩

theorem next_facts {v r : Int} (h : okN v r = true) : okV v = true ∧ okV (nextOf v r) = true ∧ regOf (nextOf v r) = r ∧ v < nextOf v r ∧ nextOf v r ≤ v + 10 ∧ grac v (nextOf v r) = !decide (r = regOf v) ∧
    IntKind.i64.wrap (v + 10) = v + 10 ∧ IntKind.i64.wrap (v + 1) = v + 1 ∧ ∀ k, v < k → k < nextOf v r → okV k = true ∧ regOf k ≠ r ∧ IntKind.i64.wrap (k + 1) = k + 1 := by
  have hn : nextOf v r = step v r := if_pos h
  obtain ⟨⟨a1, a2⟩, ⟨b1, b2⟩, c1, c2⟩ := (okN_iff v r).1 h
  obtain ⟨s1, s2, s3, s4⟩ := step_facts a1 b1 b2
  have hv : okV v = true := (okV_iff v).2 ⟨a1, a2⟩
  have hs : okV (step v r) = true := (okV_iff _).2 ⟨c1, c2⟩
  rw [hn]
  refine ⟨hv, hs, by rw [regOf, if_pos hs, s3], s1, s2, ?_, w64 (by omega) (by omega), w64 (by omega) (by omega), fun k k1 k2 => ?_⟩
  · have hr : regOf v = v % 10 := if_pos hv
    rw [grac, hv, hs, s3, hr]
    simp only [Bool.true_and, decide_true]
    rw [decide_not]
  · have hk : okV k = true := (okV_iff k).2 ⟨by omega, by omega⟩
    exact ⟨hk, by rw [regOf, if_pos hk]; exact s4 k k1 k2, w64 (by omega) (by omega)⟩

theorem grac_lt {a b : Int} (h : grac a b = true) : a < b := by
  unfold grac at h
  simp only [Bool.and_eq_true, decide_eq_true_eq] at h
  obtain ⟨⟨ha, hb⟩, h1, h2⟩ := h
  have ha' := (okV_iff a).1 ha
  have hb' := (okV_iff b).1 hb
  have := step_facts ha'.1 (r := b % 10) (by omega) (by omega)
  omega
end Go.TL.Ytmmhgioeoikgbaa

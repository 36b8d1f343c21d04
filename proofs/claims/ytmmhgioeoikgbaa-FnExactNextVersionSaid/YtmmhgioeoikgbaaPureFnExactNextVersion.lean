/- For all whole numbers NextVersion of the program answers as the reference does; no condition. -/
import Derived.Test.YtmmhgioeoikgbaaPFnExactNextVersionx1
namespace Go.Proofs.Ytmmhgioeoikgbaa.Pure
open Go.RowKit Go.Proofs.Ytmmhgioeoikgbaa.PFnExactNextVersion Go.Proofs.YtmmhgioeoikgbaaW.PrintWords Go.Proofs.YtmmhgioeoikgbaaW.PrintLast

theorem in_eq (a b c : Int) : impl_in.f a b c = spec_l1In.f a b c := rfl
theorem in_some (a b c : Int) : spec_l1In.f a b c = some (decide (b ≤ a ∧ a ≤ c)) := by
  unfold spec_l1In.f
  by_cases h1 : a ≥ b
  · rw [if_pos h1]; have : b ≤ a := h1; simp [this]
  · rw [if_neg h1]; have : ¬ b ≤ a := h1; simp [this]
theorem isV (a : Int) : impl_isVersion.f a = some (decide (0 ≤ a ∧ a ≤ 1000000)) := by
  unfold impl_isVersion.f; rw [in_eq, in_some]; rfl
theorem l13V (a : Int) : spec_l13Version.f a = some (decide (0 ≤ a ∧ a ≤ 1000000)) := by
  unfold spec_l13Version.f; rw [in_some]; rfl
theorem isR (a : Int) : impl_isRegion.f a = some (decide (0 ≤ a ∧ a ≤ 9)) := by
  unfold impl_isRegion.f; rw [in_eq, in_some]; rfl

theorem next_eq (a b : Int) : ∃ r, spec_NextVersion.f 1 a b = some r ∧ impl_NextVersion.f 1 a b = some r := by
  unfold spec_NextVersion.f impl_NextVersion.f
  rw [isV, l13V, isR, in_some]
  simp only [Option.bind_some]
  by_cases h1 : 0 ≤ a ∧ a ≤ 1000000
  · rw [if_pos (by simpa using h1), if_pos (by simpa using h1)]
    simp only [spec_NextVersion.j0, impl_NextVersion.j0, spec_l13Next.f]
    by_cases h2 : 0 ≤ b ∧ b ≤ 9
    · simp only [h2, and_self, decide_true, Bool.not_true]
      by_cases h3 : wrap64 (wrap64 (a - Int.tmod a 10) + b) ≤ a
      · simp only [h3, if_true, Option.bind_some, isV, l13V]
        simp only [Bool.false_eq_true, if_false]
        split <;> exact ⟨_, rfl, rfl⟩
      · simp only [h3, if_false, Option.bind_some, isV, l13V]
        simp only [Bool.false_eq_true, if_false]
        split <;> exact ⟨_, rfl, rfl⟩
    · simp only [h2, decide_false, Bool.not_false, if_true]
      exact ⟨_, rfl, rfl⟩
  · rw [if_neg (by simpa using h1), if_neg (by simpa using h1)]
    simp only [spec_NextVersion.j0, impl_NextVersion.j0, if_true]
    exact ⟨_, rfl, rfl⟩
theorem FnExactNextVersion : laws_FnExactNextVersion.Pure := by
  intro a0 a1 h0 h1
  refine ⟨1, ?_⟩
  obtain ⟨r, hs, hi⟩ := next_eq a0 a1
  unfold laws_FnExactNextVersion.f
  rw [hs, hi]
  simp

end Go.Proofs.Ytmmhgioeoikgbaa.Pure

/- For all whole numbers IsGraceful of the program answers as the reference does; no condition. -/
import Derived.Test.YtmmhgioeoikgbaaPFnExactIsGracefulx1
namespace Go.Proofs.Ytmmhgioeoikgbaa.Pure
open Go.RowKit Go.Proofs.Ytmmhgioeoikgbaa.PFnExactIsGraceful Go.Proofs.YtmmhgioeoikgbaaW.PrintWords Go.Proofs.YtmmhgioeoikgbaaW.PrintLast

theorem in_eq (a b c : Int) : impl_in.f a b c = spec_l1In.f a b c := rfl
theorem in_some (a b c : Int) : spec_l1In.f a b c = some (decide (b ≤ a ∧ a ≤ c)) := by
  unfold spec_l1In.f
  by_cases h1 : a ≥ b
  · rw [if_pos h1]; have : b ≤ a := h1; simp [this]
  · rw [if_neg h1]; have : ¬ b ≤ a := h1; simp [this]
theorem isV (a : Int) : impl_isVersion.f a = some (decide (0 ≤ a ∧ a ≤ 1000000)) := by
  unfold impl_isVersion.f; rw [in_eq, in_some]; rfl
theorem l13V (a : Int) : spec_l13Version.f a = some (decide (0 ≤ a ∧ a ≤ 1000000)) := by
  unfold spec_l13Version.f; rw [in_some]; rfl
theorem isR (a : Int) : impl_isRegion.f a = some (decide (0 ≤ a ∧ a ≤ 9)) := by
  unfold impl_isRegion.f; rw [in_eq, in_some]; rfl

theorem next_is (a b : Int) (ha : 0 ≤ a ∧ a ≤ 1000000) (hb : b ≤ 9) (h0 : 0 ≤ b) : ∃ n, spec_l13Next.f a b = some n ∧
    impl_NextVersion.f 1 a b = some (if 0 ≤ n ∧ n ≤ 1000000 then (n, true) else (0, false)) := by
  unfold spec_l13Next.f impl_NextVersion.f
  rw [isV, isR]
  simp only [Option.bind_some]
  have e1 : decide (0 ≤ a ∧ a ≤ 1000000) = true := decide_eq_true ha
  have e2 : decide (0 ≤ b ∧ b ≤ 9) = true := decide_eq_true ⟨h0, hb⟩
  rw [e1, e2]
  simp only [impl_NextVersion.j0, Bool.not_true, Bool.false_eq_true, if_false, if_true]
  by_cases h3 : wrap64 (wrap64 (a - Int.tmod a 10) + b) ≤ a
  · simp only [h3, if_true, isV, Option.bind_some]
    refine ⟨_, rfl, ?_⟩
    generalize wrap64 (wrap64 (wrap64 (a - Int.tmod a 10) + b) + 10) = n
    by_cases h4 : 0 ≤ n ∧ n ≤ 1000000 <;> simp [h4]
  · simp only [h3, if_false, isV, Option.bind_some]
    refine ⟨_, rfl, ?_⟩
    generalize wrap64 (wrap64 (a - Int.tmod a 10) + b) = n
    by_cases h4 : 0 ≤ n ∧ n ≤ 1000000 <;> simp [h4]
theorem FnExactIsGraceful : laws_FnExactIsGraceful.Pure := by
  intro a0 a1 h0 h1
  refine ⟨1, ?_⟩
  unfold laws_FnExactIsGraceful.f spec_IsGraceful.f impl_IsGraceful.f
  rw [isV, l13V, isV, l13V]
  simp only [Option.bind_some]
  by_cases h2 : 0 ≤ a0 ∧ a0 ≤ 1000000
  · by_cases h3 : 0 ≤ a1 ∧ a1 ≤ 1000000
    · simp only [h2, h3, and_self, decide_true, if_true]
      have hm : Int.tmod a1 10 = a1 % 10 := Int.tmod_eq_emod_of_nonneg h3.1
      obtain ⟨n, e1, e2⟩ := next_is a0 (Int.tmod a1 10) h2 (by omega) (by omega)
      rw [e1, e2]
      simp only [Option.bind_some]
      by_cases h4 : 0 ≤ n ∧ n ≤ 1000000
      · simp only [h4, and_self, if_true]
        by_cases h5 : a1 = n
        · subst h5
          simp [bne_comm]
        · have h6 : ¬ n = a1 := fun h => h5 h.symm
          simp [h5, h6]
      · have h5 : ¬ a1 = n := by intro h; subst h; exact h4 h3
        simp [h4, h5]
    · simp [h2, h3]
  · simp [h2]

end Go.Proofs.Ytmmhgioeoikgbaa.Pure

import Derived.Test.YtjkeoippmlmfbaaGreatDoorG33PpR1
import Derived.Test.YtjkeoippmlmfbaaGreatDoorG22PlR3M
import Derived.Test.YtjkeoippmlmfbaaGreatDoorPlMark
set_option linter.unusedSimpArgs false
set_option linter.unusedVariables false
set_option linter.unusedVariables false
set_option linter.unusedSimpArgs false
set_option maxRecDepth 4000
namespace Go.TL
def lk_LI (x : (List Int)) : Prop := x.length ≤ 9223372036854775807 ∧ ∀ y ∈ x, lk_I y
theorem laws_eqIntS_eq (a b : (List Int)) (ha : lk_LI a) : laws_eqIntS a b = some (decide (a = b)) := by
  obtain ⟨ha1, ha2⟩ := ha
  unfold laws_eqIntS
  by_cases hl : a.length = b.length
  · rw [if_neg (by simp [hl])]
    have key := eq_loop (step := laws_eqIntS_L1 a b) (fun i => (⟨i⟩ : laws_eqIntS_G1)) a b hl (fun i hi => ?_) ?_
    · rw [key]; by_cases h : a = b <;> simp [h]
    · have hm := ha2 _ (nth_mem hi)
      unfold laws_eqIntS_L1
      simp (disch := omega) only [decide_eq_true_eq, if_pos, guard_pos, Int.toNat_natCast, wI_id]
      by_cases h : nth a i = nth b i <;> simp [h]
    · unfold laws_eqIntS_L1
      rw [if_neg (by simp)]
  · rw [if_pos (by simp; omega)]
    simp [show a ≠ b from fun h => hl (by rw [h])]
end Go.TL

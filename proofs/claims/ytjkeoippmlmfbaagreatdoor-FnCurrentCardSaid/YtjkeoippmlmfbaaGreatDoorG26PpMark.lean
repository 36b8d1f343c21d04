import Derived.Test.YtjkeoippmlmfbaaGreatDoorPlMark
import Derived.Test.YtjkeoippmlmfbaaGreatDoorG20PlR1
import Derived.Test.YtjkeoippmlmfbaaGreatDoorG25PpR1
set_option linter.unusedSimpArgs false
set_option linter.unusedVariables false
set_option linter.unusedVariables false
set_option linter.unusedSimpArgs false
namespace Go.TL

end Go.TL
set_option linter.unusedVariables false
set_option linter.unusedSimpArgs false
namespace Go.TL

def without (l : List PacketT) (k : Nat) : List PacketT := l.take k ++ l.drop (k + 1)
end Go.TL
set_option linter.unusedVariables false
set_option linter.unusedSimpArgs false
set_option maxRecDepth 4000
namespace Go.TL
end Go.TL
set_option linter.unusedVariables false
set_option linter.unusedSimpArgs false
namespace Go.TL
end Go.TL
set_option linter.unusedVariables false
set_option linter.unusedSimpArgs false
namespace Go.TL

end Go.TL
set_option linter.unusedVariables false
set_option linter.unusedSimpArgs false
namespace Go.TL

end Go.TL
set_option linter.unusedVariables false
set_option linter.unusedSimpArgs false
namespace Go.TL

theorem sameTexts_eq (a b : List ByteArray) (ha1 : a.length ≤ 9223372036854775807) : laws_sameTexts a b = some (decide (a = b)) := by
  unfold laws_sameTexts
  by_cases hl : a.length = b.length
  · rw [if_neg (by simp [hl])]
    have key := eq_loop (step := laws_sameTexts_L1 a b) (fun i => (⟨i⟩ : laws_sameTexts_G1)) a b hl (fun i hi => ?_) ?_
    · rw [key]; by_cases h : a = b <;> simp [h]
    · unfold laws_sameTexts_L1
      simp (disch := omega) only [decide_eq_true_eq, if_pos, guard_pos, Int.toNat_natCast, wI_id]
      rw [sEq]
      by_cases h : nth a i = nth b i <;> simp [h]
    · unfold laws_sameTexts_L1
      rw [if_neg (by simp)]
  · rw [if_pos (by simp; omega)]
    simp [show a ≠ b from fun h => hl (by rw [h])]
end Go.TL

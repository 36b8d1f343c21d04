import Derived.Test.YteonagfnhdlfcaaGreatDoorG24PpR2D
import Derived.Test.YteonagfnhdlfcaaGreatDoorG20PlR3M
import Derived.Test.YteonagfnhdlfcaaGreatDoorG23PpMark
import Derived.Test.YteonagfnhdlfcaaGreatDoorG25PpR3D
set_option linter.unusedSimpArgs false
set_option linter.unusedVariables false
namespace Go.TL
end Go.TL
namespace Go.TL
end Go.TL
namespace Go.TL
theorem mayCome_eq (s : StateT) (e : EventT) (hg : goodS s = true) (hev : evP e = true) (hid : e.Id = s.Next) : za1 s e.Kind e.Name = some ((applyP s e).isSome,true) := by
 have n := goodS_num hg
 have n1 := okL_len n.2.2.2.1
 have n2 := okL_len n.2.2.2.2
 have hk : decide (1 ≤ e.Kind ∧ e.Kind ≤ 6) = true ∧ nameP e.Name = true := by
  unfold evP at hev
  simp only [Bool.and_eq_true] at hev
  exact ⟨hev.1.2,hev.2⟩
 unfold za1 zP
 rw [zbU s (by omega) (by omega),hg]
 simp only [Option.bind_some,zcK,zbs,hk.1,hk.2,Bool.not_true,Bool.false_eq_true,if_false]
 have hcl : zan s = some s := by
  unfold zan zap
  rw [guard_pos (by omega),guard_pos (by omega)]
  rfl
 rw [hcl]
 simp only [Option.bind_some]
 obtain ⟨r,hr,ht,hf⟩ := zfX s e hg hev hid
 rw [hr]
 simp only [Option.bind_some]
 cases hb : r.1
 ·rw [hf hb]; simp
 ·obtain ⟨g1,g2⟩ := ht hb
  have hlen := outP_len hg g2
  rw [if_pos rfl,zbU r.2 (by omega) (by omega)]
  have ha : applyP s e = if goodS r.2 = true then some r.2 else none := by unfold applyP; rw [if_pos g1,g2]; rfl
  rw [ha]
  simp only [Option.bind_some]
  cases goodS r.2 <;> simp
end Go.TL

import Derived.Test.YteonagfnhdlfcaaGreatDoorG22PpR1
import Derived.Test.YteonagfnhdlfcaaGreatDoorG20PlR3M
import Derived.Test.YteonagfnhdlfcaaGreatDoorG21PlLib
set_option linter.unusedSimpArgs false
set_option linter.unusedVariables false
noncomputable section
set_option maxRecDepth 4000
namespace Go.TL
def zCf (x:(List Int)):Prop:=x.length≤9223372036854775807∧∀ y∈x,zqd y
theorem zjl (a b:(List Int)) (ha:zCf a):zdX a b=some (decide (a=b)):=by
 obtain ⟨ha1,ha2⟩:=ha
 unfold zdX
 by_cases hl:a.length=b.length
 ·rw [if_neg (by simp [hl])]
  have key:=zoK (step:=zcS a b) (λ i=>(⟨i⟩:zfr)) a b hl (λ i hi=>?_) ?_
  ·rw [key];by_cases h:a=b<;>simp [h]
  ·have hm:=ha2 _ (zks hi)
   unfold zcS
   simp (disch:=omega) only [decide_eq_true_eq,if_pos,zjL,Int.toNat_natCast,zj0]
   by_cases h:nth a i=nth b i<;>simp [h]
  ·unfold zcS
   rw [if_neg (by simp)]
 ·rw [if_pos (by simp;omega)]
  simp [show a≠b from λ h=>hl (by rw [h])]
end Go.TL

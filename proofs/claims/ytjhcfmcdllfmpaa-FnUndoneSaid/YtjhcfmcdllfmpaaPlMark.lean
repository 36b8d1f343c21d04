import Derived.Test.YtjhcfmcdllfmpaaPlLib
set_option linter.unusedSimpArgs false
set_option linter.unusedVariables false
namespace Go.TL
section
variable {β γ τ : Type}
theorem nth_set_same [Inhabited β] {l : List β} {i : Nat} {v : β} (h : i < l.length) : nth (l.set i v) i = v := by
  rw [nth_eq (by rw [List.length_set]; exact h), List.getElem_set_self]

end
end Go.TL

import Derived.Test.YtjkeoippmlmfbaaGreatDoorPlLib
set_option linter.unusedSimpArgs false
set_option linter.unusedVariables false
namespace Go.TL
section
variable {β γ τ : Type}
end
end Go.TL

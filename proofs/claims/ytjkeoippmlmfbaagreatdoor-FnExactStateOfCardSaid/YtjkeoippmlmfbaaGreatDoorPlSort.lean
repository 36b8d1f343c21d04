import Derived.Test.YtjkeoippmlmfbaaGreatDoorG0TlCore
set_option linter.unusedSimpArgs false
set_option linter.unusedVariables false
namespace Go.TL

section
variable {α : Type}
end

end Go.TL

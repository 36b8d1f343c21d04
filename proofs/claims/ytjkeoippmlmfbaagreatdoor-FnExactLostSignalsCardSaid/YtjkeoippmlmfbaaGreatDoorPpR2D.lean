import Derived.Test.YtjkeoippmlmfbaaGreatDoorG37PpMark
import Derived.Test.YtjkeoippmlmfbaaGreatDoorG20PlR1
set_option linter.unusedSimpArgs false
set_option linter.unusedVariables false
set_option linter.unusedVariables false
set_option linter.unusedSimpArgs false
set_option maxRecDepth 4000
namespace Go.TL
end Go.TL

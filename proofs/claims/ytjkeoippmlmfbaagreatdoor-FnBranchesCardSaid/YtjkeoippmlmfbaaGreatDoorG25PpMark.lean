import Derived.Test.YtjkeoippmlmfbaaGreatDoorG23PlLib
import Derived.Test.YtjkeoippmlmfbaaGreatDoorG20PlR1
import Derived.Test.YtjkeoippmlmfbaaGreatDoorG24PpR1
set_option linter.unusedSimpArgs false
set_option linter.unusedVariables false
set_option linter.unusedVariables false
set_option linter.unusedSimpArgs false
namespace Go.TL

end Go.TL
set_option linter.unusedVariables false
set_option linter.unusedSimpArgs false
namespace Go.TL

def without (l : List PacketT) (k : Nat) : List PacketT := l.take k ++ l.drop (k + 1)
end Go.TL
set_option linter.unusedVariables false
set_option linter.unusedSimpArgs false
set_option maxRecDepth 4000
namespace Go.TL
end Go.TL
set_option linter.unusedVariables false
set_option linter.unusedSimpArgs false
namespace Go.TL
end Go.TL
set_option linter.unusedVariables false
set_option linter.unusedSimpArgs false
namespace Go.TL

end Go.TL
set_option linter.unusedVariables false
set_option linter.unusedSimpArgs false
namespace Go.TL

end Go.TL
set_option linter.unusedVariables false
set_option linter.unusedSimpArgs false
namespace Go.TL

end Go.TL

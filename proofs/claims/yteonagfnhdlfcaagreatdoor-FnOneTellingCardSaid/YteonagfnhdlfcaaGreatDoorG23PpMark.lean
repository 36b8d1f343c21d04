import Derived.Test.YteonagfnhdlfcaaGreatDoorG21PlLib
import Derived.Test.YteonagfnhdlfcaaGreatDoorG19PlR1
import Derived.Test.YteonagfnhdlfcaaGreatDoorG22PpR1
set_option linter.unusedSimpArgs false
set_option linter.unusedVariables false
noncomputable section
namespace Go.TL
end Go.TL
namespace Go.TL
def zDz (l:List zrs) (k:Nat):List zrs:=l.take k++l.drop (k+1)
end Go.TL
set_option maxRecDepth 4000
namespace Go.TL
end Go.TL
namespace Go.TL
end Go.TL
namespace Go.TL
end Go.TL
namespace Go.TL
end Go.TL
namespace Go.TL
end Go.TL

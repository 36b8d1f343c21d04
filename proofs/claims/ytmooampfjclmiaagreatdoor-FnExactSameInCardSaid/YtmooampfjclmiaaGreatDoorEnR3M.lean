import Derived.Test.YtmooampfjclmiaaGreatDoorG20EnR1
import Derived.Test.YtmooampfjclmiaaGreatDoorPlR3M
set_option linter.unusedSimpArgs false
set_option linter.unusedVariables false
namespace Go.TL
open Go

end Go.TL

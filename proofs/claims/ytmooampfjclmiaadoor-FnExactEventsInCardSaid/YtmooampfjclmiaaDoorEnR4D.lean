import Derived.Test.YtmooampfjclmiaaDoorEnR4Z
import Derived.Test.YtmooampfjclmiaaDoorPlR4D
set_option linter.unusedSimpArgs false
set_option linter.unusedVariables false
namespace Go.TL
open Go

end Go.TL

import Derived.Test.YtjhcfmcdllfmpaaG33PpR1
import Derived.Test.YtjhcfmcdllfmpaaPlRSG
import Derived.Test.YtjhcfmcdllfmpaaPlMark
set_option linter.unusedSimpArgs false
set_option linter.unusedVariables false
set_option linter.unusedVariables false
set_option linter.unusedSimpArgs false
set_option maxRecDepth 4000
namespace Go.TL
end Go.TL

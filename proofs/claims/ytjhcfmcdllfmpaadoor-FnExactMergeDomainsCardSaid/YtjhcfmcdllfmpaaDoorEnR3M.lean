import Derived.Test.YtjhcfmcdllfmpaaDoorG20EnR1
import Derived.Test.YtjhcfmcdllfmpaaDoorPlR3M
set_option linter.unusedSimpArgs false
set_option linter.unusedVariables false
namespace Go.TL
open Go

end Go.TL

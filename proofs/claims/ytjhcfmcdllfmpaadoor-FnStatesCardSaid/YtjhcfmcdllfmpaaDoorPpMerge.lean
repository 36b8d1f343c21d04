import Derived.Test.YtjhcfmcdllfmpaaDoorG35PpDom
import Derived.Test.YtjhcfmcdllfmpaaDoorG21PlR3M
set_option linter.unusedSimpArgs false
set_option linter.unusedVariables false
set_option linter.unusedVariables false
set_option linter.unusedSimpArgs false
namespace Go.TL

end Go.TL

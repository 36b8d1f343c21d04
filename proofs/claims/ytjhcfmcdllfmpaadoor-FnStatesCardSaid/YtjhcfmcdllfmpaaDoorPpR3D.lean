import Derived.Test.YtjhcfmcdllfmpaaDoorG35PpDom
import Derived.Test.YtjhcfmcdllfmpaaDoorG19PlR1
set_option linter.unusedSimpArgs false
set_option linter.unusedVariables false
set_option linter.unusedVariables false
set_option linter.unusedSimpArgs false
set_option maxRecDepth 4000
namespace Go.TL
def ok_Event (x : EventT) : Prop := ok_I x.Id ∧ ok_I x.Version ∧ ok_I x.Kind ∧ ok_S x.Name
def ok_LEvent (x : (List EventT)) : Prop := x.length ≤ 9223372036854775807 ∧ ∀ y ∈ x, ok_Event y
end Go.TL

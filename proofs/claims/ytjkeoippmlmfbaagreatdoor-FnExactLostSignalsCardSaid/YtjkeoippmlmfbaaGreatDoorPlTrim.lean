import Derived.Lib.SlTrimSet
set_option linter.unusedSimpArgs false
set_option linter.unusedVariables false
namespace Go.TL
def trimB (a b : ByteArray) : ByteArray := ⟨(Go.Lib.trimS a.data.toList b.data.toList).toArray⟩
end Go.TL

import Derived.Test.YtjkeoippmlmfbaaGreatDoorG22EnR1
import Derived.Test.YtjkeoippmlmfbaaGreatDoorG30PlR5C
set_option linter.unusedSimpArgs false
set_option linter.unusedVariables false
namespace Go.TL
open Go

end Go.TL
namespace Go.TL
open Go

end Go.TL
namespace Go.TL
open Go
def eTellings (x : TellingsT) : List Leaf := [.sl (x.Branches.map eBranch)]
@[go_sem] theorem eTellings_ (x : TellingsT) : eTellings x = [.sl (x.Branches.map eBranch)] := rfl
@[go_sem] theorem fold_eTellings_set (l : List TellingsT) (i : Nat) (v0 : (List BranchT)) : (l.map eTellings).set i [.sl (v0.map eBranch)] = (l.set i (⟨v0⟩ : TellingsT)).map eTellings := by rw [List.map_set]; rfl
@[go_sem] theorem fold_eTellings_app (l : List TellingsT) (v0 : (List BranchT)) : l.map eTellings ++ [[.sl (v0.map eBranch)]] = (l ++ [(⟨v0⟩ : TellingsT)]).map eTellings := by rw [List.map_append]; rfl
end Go.TL

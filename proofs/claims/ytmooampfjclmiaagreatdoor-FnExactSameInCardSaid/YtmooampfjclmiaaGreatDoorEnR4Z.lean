import Derived.Test.YtmooampfjclmiaaGreatDoorEnR3M
import Derived.Test.YtmooampfjclmiaaGreatDoorPlR4Z
set_option linter.unusedSimpArgs false
set_option linter.unusedVariables false
namespace Go.TL
open Go
def eRegion (x : RegionT) : List Leaf := [.sc (.int .i64 x.Id), .sc (.int .i64 x.Version), .sl (x.Tellings.Branches.map eBranch)]
@[go_sem] theorem eRegion_ (x : RegionT) : eRegion x = [.sc (.int .i64 x.Id), .sc (.int .i64 x.Version), .sl (x.Tellings.Branches.map eBranch)] := rfl
@[go_sem] theorem fold_eRegion_set (l : List RegionT) (i : Nat) (v0 : Int) (v1 : Int) (v2 : (List BranchT)) : (l.map eRegion).set i [.sc (.int .i64 v0), .sc (.int .i64 v1), .sl (v2.map eBranch)] = (l.set i (⟨v0, v1, ⟨v2⟩⟩ : RegionT)).map eRegion := by rw [List.map_set]; rfl
@[go_sem] theorem fold_eRegion_app (l : List RegionT) (v0 : Int) (v1 : Int) (v2 : (List BranchT)) : l.map eRegion ++ [[.sc (.int .i64 v0), .sc (.int .i64 v1), .sl (v2.map eBranch)]] = (l ++ [(⟨v0, v1, ⟨v2⟩⟩ : RegionT)]).map eRegion := by rw [List.map_append]; rfl
theorem fold_eRegion_rep (n : Nat) : List.replicate n [.sc (.int .i64 0), .sc (.int .i64 0), .sl []] = (List.replicate n (⟨0, 0, (⟨[]⟩ : TellingsT)⟩ : RegionT)).map eRegion := by rw [List.map_replicate]; rfl
def eSaid (x : SaidT) : List Leaf := [.sc (.int .i64 x.To), .sc (.int .i64 x.Word.Version), .sl (x.Word.Tellings.Branches.map eBranch)]
@[go_sem] theorem eSaid_ (x : SaidT) : eSaid x = [.sc (.int .i64 x.To), .sc (.int .i64 x.Word.Version), .sl (x.Word.Tellings.Branches.map eBranch)] := rfl
@[go_sem] theorem fold_eSaid_set (l : List SaidT) (i : Nat) (v0 : Int) (v1 : Int) (v2 : (List BranchT)) : (l.map eSaid).set i [.sc (.int .i64 v0), .sc (.int .i64 v1), .sl (v2.map eBranch)] = (l.set i (⟨v0, ⟨v1, ⟨v2⟩⟩⟩ : SaidT)).map eSaid := by rw [List.map_set]; rfl
@[go_sem] theorem fold_eSaid_app (l : List SaidT) (v0 : Int) (v1 : Int) (v2 : (List BranchT)) : l.map eSaid ++ [[.sc (.int .i64 v0), .sc (.int .i64 v1), .sl (v2.map eBranch)]] = (l ++ [(⟨v0, ⟨v1, ⟨v2⟩⟩⟩ : SaidT)]).map eSaid := by rw [List.map_append]; rfl
theorem fold_eSaid_rep (n : Nat) : List.replicate n [.sc (.int .i64 0), .sc (.int .i64 0), .sl []] = (List.replicate n (⟨0, (⟨0, (⟨[]⟩ : TellingsT)⟩ : WordT)⟩ : SaidT)).map eSaid := by rw [List.map_replicate]; rfl
end Go.TL

import Derived.Test.YtjhcfmcdllfmpaaG22EnR1
import Derived.Test.YtjhcfmcdllfmpaaPlRSG
set_option linter.unusedSimpArgs false
set_option linter.unusedVariables false
namespace Go.TL
open Go
def eMove (x : MoveT) : List Leaf := [.sc (.int .i64 x.From), .sc (.int .i64 x.To), .sc (.int .i64 x.Many)]
@[go_sem] theorem eMove_ (x : MoveT) : eMove x = [.sc (.int .i64 x.From), .sc (.int .i64 x.To), .sc (.int .i64 x.Many)] := rfl
@[go_sem] theorem flat_eMove (l : List MoveT) : flatR (l.map eMove) = True := flat_map (fun x l h => by simp only [eMove, List.mem_cons, List.not_mem_nil, or_false] at h; rcases h with rfl | rfl | rfl <;> exact ⟨_, rfl⟩) l
@[go_sem] theorem fold_eMove_set (l : List MoveT) (i : Nat) (v0 : Int) (v1 : Int) (v2 : Int) : (l.map eMove).set i [.sc (.int .i64 v0), .sc (.int .i64 v1), .sc (.int .i64 v2)] = (l.set i (⟨v0, v1, v2⟩ : MoveT)).map eMove := by rw [List.map_set]; rfl
@[go_sem] theorem fold_eMove_app (l : List MoveT) (v0 : Int) (v1 : Int) (v2 : Int) : l.map eMove ++ [[.sc (.int .i64 v0), .sc (.int .i64 v1), .sc (.int .i64 v2)]] = (l ++ [(⟨v0, v1, v2⟩ : MoveT)]).map eMove := by rw [List.map_append]; rfl
end Go.TL

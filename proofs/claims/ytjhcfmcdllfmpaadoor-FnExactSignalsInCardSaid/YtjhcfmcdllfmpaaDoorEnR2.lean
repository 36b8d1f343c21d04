import Derived.Test.YtjhcfmcdllfmpaaDoorEnR1
import Derived.Test.YtjhcfmcdllfmpaaDoorPlR2
set_option linter.unusedSimpArgs false
set_option linter.unusedVariables false
namespace Go.TL
open Go
def eLineStep (x : LineStepT) : List Leaf := [.sc (.int .i64 x.Kind), .sc (.int .i64 x.K), .sc (.string x.Text)]
@[go_sem] theorem eLineStep_ (x : LineStepT) : eLineStep x = [.sc (.int .i64 x.Kind), .sc (.int .i64 x.K), .sc (.string x.Text)] := rfl
@[go_sem] theorem flat_eLineStep (l : List LineStepT) : flatR (l.map eLineStep) = True := flat_map (fun x l h => by simp only [eLineStep, List.mem_cons, List.not_mem_nil, or_false] at h; rcases h with rfl | rfl | rfl <;> exact ⟨_, rfl⟩) l
@[go_sem] theorem fold_eLineStep_set (l : List LineStepT) (i : Nat) (v0 : Int) (v1 : Int) (v2 : ByteArray) : (l.map eLineStep).set i [.sc (.int .i64 v0), .sc (.int .i64 v1), .sc (.string v2)] = (l.set i (⟨v0, v1, v2⟩ : LineStepT)).map eLineStep := by rw [List.map_set]; rfl
@[go_sem] theorem fold_eLineStep_app (l : List LineStepT) (v0 : Int) (v1 : Int) (v2 : ByteArray) : l.map eLineStep ++ [[.sc (.int .i64 v0), .sc (.int .i64 v1), .sc (.string v2)]] = (l ++ [(⟨v0, v1, v2⟩ : LineStepT)]).map eLineStep := by rw [List.map_append]; rfl
theorem fold_eLineStep_rep (n : Nat) : List.replicate n [.sc (.int .i64 0), .sc (.int .i64 0), .sc (.string ByteArray.empty)] = (List.replicate n (⟨0, 0, ByteArray.empty⟩ : LineStepT)).map eLineStep := by rw [List.map_replicate]; rfl
end Go.TL

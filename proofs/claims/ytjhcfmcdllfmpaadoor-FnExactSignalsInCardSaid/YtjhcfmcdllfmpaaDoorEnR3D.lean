import Derived.Test.YtjhcfmcdllfmpaaDoorEnR2D
import Derived.Test.YtjhcfmcdllfmpaaDoorPlR3D
set_option linter.unusedSimpArgs false
set_option linter.unusedVariables false
namespace Go.TL
open Go
def eEvent (x : EventT) : List Leaf := [.sc (.int .i64 x.Id), .sc (.int .i64 x.Version), .sc (.int .i64 x.Kind), .sc (.string x.Name)]
@[go_sem] theorem eEvent_ (x : EventT) : eEvent x = [.sc (.int .i64 x.Id), .sc (.int .i64 x.Version), .sc (.int .i64 x.Kind), .sc (.string x.Name)] := rfl
@[go_sem] theorem flat_eEvent (l : List EventT) : flatR (l.map eEvent) = True := flat_map (fun x l h => by simp only [eEvent, List.mem_cons, List.not_mem_nil, or_false] at h; rcases h with rfl | rfl | rfl | rfl <;> exact ⟨_, rfl⟩) l
@[go_sem] theorem fold_eEvent_set (l : List EventT) (i : Nat) (v0 : Int) (v1 : Int) (v2 : Int) (v3 : ByteArray) : (l.map eEvent).set i [.sc (.int .i64 v0), .sc (.int .i64 v1), .sc (.int .i64 v2), .sc (.string v3)] = (l.set i (⟨v0, v1, v2, v3⟩ : EventT)).map eEvent := by rw [List.map_set]; rfl
@[go_sem] theorem fold_eEvent_app (l : List EventT) (v0 : Int) (v1 : Int) (v2 : Int) (v3 : ByteArray) : l.map eEvent ++ [[.sc (.int .i64 v0), .sc (.int .i64 v1), .sc (.int .i64 v2), .sc (.string v3)]] = (l ++ [(⟨v0, v1, v2, v3⟩ : EventT)]).map eEvent := by rw [List.map_append]; rfl
theorem fold_eEvent_rep (n : Nat) : List.replicate n [.sc (.int .i64 0), .sc (.int .i64 0), .sc (.int .i64 0), .sc (.string ByteArray.empty)] = (List.replicate n (⟨0, 0, 0, ByteArray.empty⟩ : EventT)).map eEvent := by rw [List.map_replicate]; rfl
def eBranch (x : BranchT) : List Leaf := [.sl (x.Events.map eEvent)]
@[go_sem] theorem eBranch_ (x : BranchT) : eBranch x = [.sl (x.Events.map eEvent)] := rfl
@[go_sem] theorem fold_eBranch_set (l : List BranchT) (i : Nat) (v0 : (List EventT)) : (l.map eBranch).set i [.sl (v0.map eEvent)] = (l.set i (⟨v0⟩ : BranchT)).map eBranch := by rw [List.map_set]; rfl
@[go_sem] theorem fold_eBranch_app (l : List BranchT) (v0 : (List EventT)) : l.map eBranch ++ [[.sl (v0.map eEvent)]] = (l ++ [(⟨v0⟩ : BranchT)]).map eBranch := by rw [List.map_append]; rfl
theorem fold_eBranch_rep (n : Nat) : List.replicate n [.sl []] = (List.replicate n (⟨[]⟩ : BranchT)).map eBranch := by rw [List.map_replicate]; rfl
end Go.TL

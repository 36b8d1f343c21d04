import Derived.Test.YtjhcfmcdllfmpaaDoorEnR2
import Derived.Test.YtjhcfmcdllfmpaaDoorPlR2D
set_option linter.unusedSimpArgs false
set_option linter.unusedVariables false
namespace Go.TL
open Go
def eDomain (x : DomainT) : List Leaf := [.sc (.string x.Name), .sc (.int .i64 x.Version), .sc (.string x.Note)]
@[go_sem] theorem eDomain_ (x : DomainT) : eDomain x = [.sc (.string x.Name), .sc (.int .i64 x.Version), .sc (.string x.Note)] := rfl
@[go_sem] theorem flat_eDomain (l : List DomainT) : flatR (l.map eDomain) = True := flat_map (fun x l h => by simp only [eDomain, List.mem_cons, List.not_mem_nil, or_false] at h; rcases h with rfl | rfl | rfl <;> exact ⟨_, rfl⟩) l
@[go_sem] theorem fold_eDomain_set (l : List DomainT) (i : Nat) (v0 : ByteArray) (v1 : Int) (v2 : ByteArray) : (l.map eDomain).set i [.sc (.string v0), .sc (.int .i64 v1), .sc (.string v2)] = (l.set i (⟨v0, v1, v2⟩ : DomainT)).map eDomain := by rw [List.map_set]; rfl
@[go_sem] theorem fold_eDomain_app (l : List DomainT) (v0 : ByteArray) (v1 : Int) (v2 : ByteArray) : l.map eDomain ++ [[.sc (.string v0), .sc (.int .i64 v1), .sc (.string v2)]] = (l ++ [(⟨v0, v1, v2⟩ : DomainT)]).map eDomain := by rw [List.map_append]; rfl
theorem fold_eDomain_rep (n : Nat) : List.replicate n [.sc (.string ByteArray.empty), .sc (.int .i64 0), .sc (.string ByteArray.empty)] = (List.replicate n (⟨ByteArray.empty, 0, ByteArray.empty⟩ : DomainT)).map eDomain := by rw [List.map_replicate]; rfl
end Go.TL

import Derived.Test.YtjhcfmcdllfmpaaDoorProg
import Derived.Shelf.SlSortCmp.InsertionK
import Derived.Laws.Cover1
import Derived.Test.YtjhcfmcdllfmpaaDoorTlCmpT
set_option linter.unusedSimpArgs false
set_option linter.unusedVariables false
namespace Go.Proofs
open Go.Shelf Go.RowKit Go.Lib Go.Sort

set_option maxHeartbeats 1000000 in
theorem Tryd.isNaNS (x : ByteArray) (W : World) : Calls Tryd.prog 138 #[.string x] W fun e w' => e = .returned (.bool false) ∧ w' = W := by
  go_enter Tryd.func138, Tryd.ntmps138
  go_wp2
  go_ret
  exact ⟨by simp, rfl⟩

set_option maxHeartbeats 1000000 in
theorem Tryd.cmpS100 (x y : ByteArray) (W : World) : Calls Tryd.prog 100 #[.string x, .string y] W fun e w' => e = .returned (.int .i64 (cmpT x y)) ∧ w' = W := by
  have hcon := fun s W' => Tryd.isNaNS s W'
  obtain ⟨r, hr⟩ : ∃ r, r = cmpT x y := ⟨_, rfl⟩
  rw [← hr]
  go_enter Tryd.func100, Tryd.ntmps100
  go_wp2_with (go_at_call 138; refine (hcon _ _).mono ?_; rintro e w' ⟨rfl, rfl⟩)
  all_goals (go_ret; refine ⟨?_, rfl⟩; rw [hr]; unfold cmpT; simp_all)

set_option maxHeartbeats 1000000 in
theorem Tryd.closure99 (a1 a3 b1 b3 : ByteArray) (a2 b2 : Int) (W : World) : Calls Tryd.prog 99 #[.agg #[.string a1, .int .i64 a2, .string a3], .agg #[.string b1, .int .i64 b2, .string b3]] W fun e w' => e = .returned (.int .i64 (cmpT a1 b1)) ∧ ∃ q os', w' = grow (W.drewN q) os' := by
  have hcon := fun s t W' => Tryd.cmpS100 s t W'
  obtain ⟨r, hr⟩ : ∃ r, r = cmpT a1 b1 := ⟨_, rfl⟩
  rw [← hr]
  go_enter Tryd.func99, Tryd.ntmps99
  go_wp2_with (go_at_call 100; refine (hcon _ _ _).mono ?_; rintro e w' ⟨rfl, rfl⟩)
  go_ret
  exact ⟨by rw [hr]; rfl, 0, _, by rw [alloc_eq_grow, alloc_eq_grow, grow_grow]; rfl⟩
end Go.Proofs

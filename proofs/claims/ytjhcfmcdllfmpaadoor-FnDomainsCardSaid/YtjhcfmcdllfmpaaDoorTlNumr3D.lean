import Derived.Test.YtjhcfmcdllfmpaaDoorProg
import Derived.Shelf.SlSortCmp.InsertionK
import Derived.Below
import Derived.Test.YtjhcfmcdllfmpaaDoorG0TlCore
set_option linter.unusedSimpArgs false
set_option linter.unusedVariables false
namespace Go.Proofs
open Go.Shelf Go.RowKit Go.Lib

theorem Tryd.bytes1 (x : Int) (W : World) : (convert 43 9 (Value.slice (some ⟨W.heap.size, 0, none⟩) 1 1)).run Tryd.prog (W.alloc (Obj.cells #[Value.int .u8 x] 5)) = .ok (.string (TL.bstr [x])) (W.alloc (Obj.cells #[Value.int .u8 x] 5)) := by
  have hb : (Conv.bytesToString (.slice (some ⟨W.heap.size, 0, none⟩) ([x] : List Int).length 1)).run Tryd.prog (W.alloc (Obj.cells #[Value.int .u8 x] 5)) = .ok (.string (TL.bstr [x])) (W.alloc (Obj.cells #[Value.int .u8 x] 5)) :=
    TL.run_bytesToString (b := W.heap.size) (o := 0) (fun _ => rfl) fun j hj => by
      have : j = 0 := by simpa using hj
      subst this
      simp
  simp only [convert, Sem.run_bind, run_underlying Tryd.underlying43, run_underlying Tryd.underlying9, run_underlying Tryd.underlying5, Result.andThen_ok]
  exact (by simpa using hb)

set_option maxHeartbeats 1000000 in
set_option maxRecDepth 100000 in
theorem Tryd.l1num (n : Int) (h0 : 0 ≤ n) (h1 : n < 10) (W : World) : Calls Tryd.prog 139 #[.int .i64 n] W fun e w' => e = .returned (.string (TL.bstr [48 + n])) ∧ Below W.heap.size W w' := by
  have hcv := Tryd.bytes1 (48 + n) W
  go_enter Tryd.func139, Tryd.ntmps139
  go_wp2_with (simp only [hcv, Result.andThen_ok])
  go_ret
  exact ⟨rfl, (Below.refl _ W).alloc (Nat.le_refl _) _⟩
end Go.Proofs

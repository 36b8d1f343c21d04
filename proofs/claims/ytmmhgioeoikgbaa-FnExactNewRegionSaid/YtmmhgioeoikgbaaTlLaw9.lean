/- FnExactNewRegion answers true for all arguments, and leaves them as they were; no condition. -/
import Derived.Test.YtmmhgioeoikgbaaRows
import Derived.Test.YtmmhgioeoikgbaaTlT8
import Derived.Test.YtmmhgioeoikgbaaTlOpen
import Derived.WalkKit
import Derived.ProofKit
import Derived.OpenShut
import Derived.ShutString
import Derived.ChangeOld
import Derived.Below
import Derived.SizedLaws
set_option linter.unusedSimpArgs false
set_option linter.unusedVariables false
namespace Go.Proofs.Ytmmhgioeoikgbaa.fnExactNewRegion
open Go.ChangeShapes Go.WideShapes Go.ChangeAt Go.RowKit Go.TL Go.TL.Ytmmhgioeoikgbaa
set_option maxRecDepth 100000
theorem own : ownKnob Try.prog.godebug = none := by kernel_rfl
def rg3 (x : Int) : Prop := -9223372036854775808 ≤ x ∧ x ≤ 9223372036854775807
abbrev row3 (x : Int) : List Leaf := [.sc (.int .i64 x)]
theorem op3 {n : Nat} {ls : List Leaf} (h : Shp Try.prog (n + 1) 3 ls) : ∃ x : Int, ls = [.sc (.int .i64 x)] ∧ rg3 x := by
  obtain ⟨x, h1, h2⟩ := shp_int Try.underlying3 h
  exact ⟨x, h1, bounds_i64 h2⟩
set_option maxRecDepth 100000 in
theorem law (ls : List (List Leaf)) (h : ShpAll Try.prog 1 [3] ls) : ∃ nx, Go.TL.Fn Try.prog 9 (argsLV Try.prog [3] ls) [] 0 (.lf false (.sc (.bool true))) [] nx := by
  obtain ⟨a0, _, rfl, h0, rfl⟩ := h
  obtain ⟨x0, rfl, g0⟩ := op3 (n := 0) h0
  simp only [argsLV, argLV, Try.underlying3, lfOf, List.map_cons, List.map_nil, List.cons_append, List.nil_append, row3]
  exact ⟨_, f9 x0⟩
set_option maxRecDepth 100000 in
theorem lifted (os : Os) (started : os.Started) (H : Type) (enc : TypeId × Value → H) :
    ReturnsInHanded {} Try.checked os 9 .any (Rows.fnExactNewRegionSpec.pre6 enc Try.prog Try.f9 Rows.fnExactNewRegionRow.domain false) (Rows.fnExactNewRegionSpec.post enc Try.prog Try.f9 false true false false) := by
  refine returnsInHanded_of_change_sized (C := Try.checked) own started (by kernel_rfl) Try.func9
    (ChangeSpec.witness6 (enc := enc) (C := Try.checked) false ⟨#[], #[.int .i64 0], []⟩ 8 (by kernel_rfl) (by kernel_rfl) (by kernel_rfl) (by kernel_rfl)) ?_
  intro W base args ds gs before hval0 hW hcnd hsz0 _
  have hval : ∀ (j : Nat) t v, Try.f9.params[j]? = some t → args[j]? = some v → Value.okWide Try.prog W .any base t v := hval0
  have hW' := hW
  obtain ⟨p, q, hA0, hV, rfl, hfz, hnd⟩ := hW
  have hA : DataW.TrodAll enc Try.prog W 0 (fun _ => true) true Try.f9.params.toList args.toList ds p := hA0
  rw [Try.params9] at hA hval
  obtain ⟨rfl, rfl⟩ := trodVars_none hV
  obtain ⟨hlen, hc⟩ := law_calls (n := 1) (f := 9) (by kernel_rfl) (fun j t v h1 h2 => hval j t v (by simpa using h1) h2) hA law
  refine hc.mono fun e W' ⟨he, bel⟩ => ?_
  subst he
  have hback := backAll (enc := enc) (P := Try.prog) (by kernel_rfl) bel (by kernel_rfl) (fun x hx => hW'.lt x (by simpa using hx)) hA
  match ds, hlen with
  | [d0], _ => exact ⟨_, rfl, _, _, _, [], _, [], hW', trodAll_mk1 (shut_bool Try.underlying4 _), hback, rfl, bel.frame _, fun h => by cases h⟩

theorem over : Rows.fnExactNewRegionRow.holds Try.pinned (OpenSpec.ofChange Rows.fnExactNewRegionSpec) :=
  OpenClaim.holds_of_wide 9 Try.f9 rfl rfl rfl rfl rfl rfl rfl ⟨rfl, rfl, rfl, rfl, rfl⟩ rfl rfl rfl rfl rfl (by kernel_rfl) Try.func9 (by kernel_rfl)
    (of_decide_eq_true (by kernel_rfl)) (by unfold Func.isWrapper; first | (rw [if_pos (by decide +kernel)]; kernel_rfl) | (rw [if_neg (by decide +kernel)]; exact ⟨rfl, rfl⟩))
    (fun os started H enc _ => lifted os started H enc)
theorem proved : Rows.FnExactNewRegionSaid := over
#print axioms proved
end Go.Proofs.Ytmmhgioeoikgbaa.fnExactNewRegion
namespace Go.Proofs.Ytmmhgioeoikgbaa
/-- The row, under a short name, for the claim. -/
theorem fnExactNewRegion_holds : Rows.FnExactNewRegionSaid := fnExactNewRegion.proved
end Go.Proofs.Ytmmhgioeoikgbaa

/- FnVersions answers true for every pair of byte slices, and leaves them as they were; no condition. -/
import Derived.Test.YtmmhgioeoikgbaaRows
import Derived.Test.YtmmhgioeoikgbaaTlT6
import Derived.Test.YtmmhgioeoikgbaaTlOpen
import Derived.WalkKit
import Derived.ProofKit
import Derived.OpenShut
import Derived.ShutString
import Derived.ChangeOld
import Derived.Below
import Derived.SizedLaws
set_option linter.unusedSimpArgs false
set_option linter.unusedVariables false
namespace Go.Proofs.Ytmmhgioeoikgbaa.fnVersions
open Go.ChangeShapes Go.WideShapes Go.ChangeAt Go.RowKit Go.TL
theorem own : ownKnob Try.prog.godebug = none := by kernel_rfl

set_option maxRecDepth 100000 in
theorem bytes {n : Nat} {ls : List Leaf} (h : Shp Try.prog (n + 2) 29 ls) : ∃ bs : List Int, ls = [.sl (bs.map Go.TL.Ytmmhgioeoikgbaa.byt)] ∧ Go.TL.Ytmmhgioeoikgbaa.Byts bs := by
  obtain ⟨bs, h1, _, h2⟩ := shp_slice (f := Go.TL.Ytmmhgioeoikgbaa.byt) (p := fun b => 0 ≤ b ∧ b ≤ 255) Try.underlying29 (fun r hr => by
    obtain ⟨x, rfl, hx⟩ := shp_int Try.underlying5 hr
    exact ⟨x, rfl, bounds_u8 hx⟩) h
  exact ⟨bs, h1, h2⟩

set_option maxRecDepth 100000 in
theorem law (ls : List (List Leaf)) (h : ShpAll Try.prog 4 [29, 29] ls) : ∃ nx, Go.TL.Fn Try.prog 6 (argsLV Try.prog [29, 29] ls) [] 0 (.lf false (.sc (.bool true))) [] nx := by
  obtain ⟨a, _, rfl, ha, b, _, rfl, hb, rfl⟩ := h
  obtain ⟨bs, rfl, h1⟩ := bytes ha
  obtain ⟨cs, rfl, h2⟩ := bytes hb
  simp only [argsLV, argLV, Try.underlying29, lfOf]
  exact ⟨_, Go.TL.Ytmmhgioeoikgbaa.f6 bs cs h1 h2⟩

set_option maxRecDepth 100000 in
theorem lifted (os : Os) (started : os.Started) (H : Type) (enc : TypeId × Value → H) :
    ReturnsInHanded {} Try.checked os 6 .any (Rows.fnVersionsSpec.pre6 enc Try.prog Try.f6 Rows.fnVersionsRow.domain false) (Rows.fnVersionsSpec.post enc Try.prog Try.f6 false true false false) := by
  refine returnsInHanded_of_change_sized (C := Try.checked) own started (by kernel_rfl) Try.func6
    (ChangeSpec.witness6 (enc := enc) (C := Try.checked) false ⟨#[], #[.slice none 0 0, .slice none 0 0], []⟩ 8 (by kernel_rfl) (by kernel_rfl) (by kernel_rfl) (by kernel_rfl)) ?_
  intro W base args ds gs before hval0 hW hcnd hsz0 _
  have hval : ∀ (j : Nat) t v, Try.f6.params[j]? = some t → args[j]? = some v → Value.okWide Try.prog W .any base t v := hval0
  have hW' := hW
  obtain ⟨p, q, hA0, hV, rfl, hfz, hnd⟩ := hW
  have hA : DataW.TrodAll enc Try.prog W 0 (fun _ => true) true Try.f6.params.toList args.toList ds p := hA0
  rw [Try.params6] at hA hval
  obtain ⟨rfl, rfl⟩ := trodVars_none hV
  obtain ⟨hlen, hc⟩ := law_calls (n := 4) (f := 6) (by kernel_rfl) (fun j t v h1 h2 => hval j t v (by simpa using h1) h2) hA law
  refine hc.mono fun e W' ⟨he, bel⟩ => ?_
  subst he
  have hback := backAll (enc := enc) (P := Try.prog) (by kernel_rfl) bel (by kernel_rfl) (fun x hx => hW'.lt x (by simpa using hx)) hA
  match ds, hlen with
  | [d1, d2], _ => exact ⟨_, rfl, _, _, _, [], _, [], hW', trodAll_mk1 (shut_bool Try.underlying4 _), hback, rfl, bel.frame _, fun h => by cases h⟩

theorem over : Rows.fnVersionsRow.holds Try.pinned (OpenSpec.ofChange Rows.fnVersionsSpec) :=
  OpenClaim.holds_of_wide 6 Try.f6 rfl rfl rfl rfl rfl rfl rfl ⟨rfl, rfl, rfl, rfl, rfl⟩ rfl rfl rfl rfl rfl (by kernel_rfl) Try.func6 (by kernel_rfl)
    (of_decide_eq_true (by kernel_rfl)) (by unfold Func.isWrapper; first | (rw [if_pos (by decide +kernel)]; kernel_rfl) | (rw [if_neg (by decide +kernel)]; exact ⟨rfl, rfl⟩))
    (fun os started H enc _ => lifted os started H enc)
theorem proved : Rows.FnVersionsSaid := over
#print axioms proved
end Go.Proofs.Ytmmhgioeoikgbaa.fnVersions
namespace Go.Proofs.Ytmmhgioeoikgbaa
/-- The row, under a short name, for the claim. -/
theorem fnVersions_holds : Rows.FnVersionsSaid := fnVersions.proved
end Go.Proofs.Ytmmhgioeoikgbaa

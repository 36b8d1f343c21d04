/- FnExactPlayQueue answers true for all arguments, and leaves them as they were; no condition. -/
import Derived.Test.YtoabnifimfcbcaaRows
import Derived.Test.YtoabnifimfcbcaaWlFnExactPlayQueueB
import Derived.Test.YtoabnifimfcbcaaPpPlayQ2
import Derived.Test.YtoabnifimfcbcaaTlOpen
import Derived.WalkKit
import Derived.ProofKit
import Derived.OpenShut
import Derived.ShutString
import Derived.ChangeOld
import Derived.Below
import Derived.SizedLaws
set_option linter.unusedVariables false
set_option linter.unusedSimpArgs false
namespace Go.TL
open Go
def eLLineStep (x : (List LineStepT)) : List Leaf := [.sl (x.map eLineStep)]
@[go_sem] theorem eLLineStep_ (x : (List LineStepT)) : eLLineStep x = [.sl (x.map eLineStep)] := rfl
@[go_sem] theorem fold_eLLineStep_set (l : List (List LineStepT)) (i : Nat) (v : (List LineStepT)) : (l.map eLLineStep).set i [.sl (v.map eLineStep)] = (l.set i v).map eLLineStep := by rw [List.map_set]; rfl
@[go_sem] theorem fold_eLLineStep_app (l : List (List LineStepT)) (v : (List LineStepT)) : l.map eLLineStep ++ [[.sl (v.map eLineStep)]] = (l ++ [v]).map eLLineStep := by rw [List.map_append]; rfl
theorem fold_eLLineStep_rep (n : Nat) : List.replicate n [.sl []] = (List.replicate n []).map eLLineStep := by rw [List.map_replicate]; rfl
end Go.TL
namespace Go.Proofs.Ytoabnifimfcbcaa.fnExactPlayQueue
open Go.ChangeShapes Go.WideShapes Go.ChangeAt Go.RowKit Go.TL Go.TL.Ytoabnifimfcbcaa
set_option maxRecDepth 100000
theorem own : ownKnob Try.prog.godebug = none := by kernel_rfl
theorem op3 {n : Nat} {ls : List Leaf} (h : Shp Try.prog (n + 1) 3 ls) : ∃ x : Int, ls = eI x ∧ ok_I x := by
  obtain ⟨x, h1, h2⟩ := shp_int Try.underlying3 h
  exact ⟨x, h1, bounds_i64 h2⟩
theorem op9 {n : Nat} {ls : List Leaf} (h : Shp Try.prog (n + 1) 9 ls) : ∃ x : ByteArray, ls = eS x ∧ ok_S x := by
  obtain ⟨x, h1, h2⟩ := shp_str Try.underlying9 h
  exact ⟨x, h1, by unfold maxLen at h2; exact h2⟩
set_option maxRecDepth 100000 in
theorem op85 {n : Nat} {ls : List Leaf} (h : Shp Try.prog (n + 2) 85 ls) : ∃ x : LineStepT, ls = eLineStep x ∧ ok_LineStep x := by
  obtain ⟨a0, _, rfl, h0, a1, _, rfl, h1, a2, _, rfl, h2, rfl⟩ := shp_struct Try.underlying85 h
  obtain ⟨x0, rfl, g0⟩ := op3 (n := n + 0) h0
  obtain ⟨x1, rfl, g1⟩ := op3 (n := n + 0) h1
  obtain ⟨x2, rfl, g2⟩ := op9 (n := n + 0) h2
  exact ⟨⟨x0, x1, x2⟩, rfl, ⟨g0, g1, g2⟩⟩
set_option maxRecDepth 100000 in
theorem op73 {n : Nat} {ls : List Leaf} (h : Shp Try.prog (n + 3) 73 ls) : ∃ x : (List LineStepT), ls = [.sl (x.map eLineStep)] ∧ ok_LLineStep x := by
  obtain ⟨xs, h1, h2, h3⟩ := shp_slice (f := eLineStep) (p := ok_LineStep) Try.underlying73 (fun r hr => op85 (n := n) hr) h
  exact ⟨xs, h1, by unfold maxLen at h2; exact ⟨h2, h3⟩⟩
set_option maxRecDepth 100000 in
theorem law (ls : List (List Leaf)) (h : ShpAll Try.prog 3 [3, 73] ls) : ∃ nx, Go.TL.Fn Try.prog 7 (argsLV Try.prog [3, 73] ls) [] 0 (.lf false (.sc (.bool true))) [] nx := by
  obtain ⟨a0, _, rfl, h0, a1, _, rfl, h1, rfl⟩ := h
  obtain ⟨x0, rfl, g0⟩ := op3 (n := 2) h0
  obtain ⟨x1, rfl, g1⟩ := op73 (n := 0) h1
  simp only [argsLV, argLV, Try.underlying3, Try.underlying73, lfOf, List.map_cons, List.map_nil, List.cons_append, List.nil_append, eI, eLLineStep]
  exact ⟨_, w_laws_FnExactPlayQueue (play_holds x0 x1 g1)⟩
set_option maxRecDepth 100000 in
theorem lifted (os : Os) (started : os.Started) (H : Type) (enc : TypeId × Value → H) :
    ReturnsInHanded {} Try.checked os 7 .any (Rows.fnExactPlayQueueSpec.pre6 enc Try.prog Try.f7 Rows.fnExactPlayQueueRow.domain false) (Rows.fnExactPlayQueueSpec.post enc Try.prog Try.f7 false true false false) := by
  refine returnsInHanded_of_change_sized (C := Try.checked) own started (by kernel_rfl) Try.func7
    (ChangeSpec.witness6 (enc := enc) (C := Try.checked) false ⟨#[], #[.int .i64 0, .slice none 0 0], []⟩ 8 (by kernel_rfl) (by kernel_rfl) (by kernel_rfl) (by kernel_rfl)) ?_
  intro W base args ds gs before hval0 hW hcnd hsz0 _
  have hval : ∀ (j : Nat) t v, Try.f7.params[j]? = some t → args[j]? = some v → Value.okWide Try.prog W .any base t v := hval0
  have hW' := hW
  obtain ⟨p, q, hA0, hV, rfl, hfz, hnd⟩ := hW
  have hA : DataW.TrodAll enc Try.prog W 0 (fun _ => true) true Try.f7.params.toList args.toList ds p := hA0
  rw [Try.params7] at hA hval
  obtain ⟨rfl, rfl⟩ := trodVars_none hV
  obtain ⟨hlen, hc⟩ := law_calls (n := 3) (base := base) (f := 7) (by kernel_rfl) (fun j t v h1 h2 => hval j t v (by simpa using h1) h2) hA law
  refine hc.mono fun e W' ⟨he, bel⟩ => ?_
  subst he
  have hback := backAll (enc := enc) (P := Try.prog) (by kernel_rfl) bel (by kernel_rfl) (fun x hx => hW'.lt x (by simpa using hx)) hA
  match ds, hlen with
  | [d0, d1], _ => exact ⟨_, rfl, _, _, _, [], _, [], hW', trodAll_mk1 (shut_bool Try.underlying4 _), hback, rfl, bel.frame _, fun h => by cases h⟩

theorem over : Rows.fnExactPlayQueueRow.holds Try.pinned (OpenSpec.ofChange Rows.fnExactPlayQueueSpec) :=
  OpenClaim.holds_of_wide 7 Try.f7 rfl rfl rfl rfl rfl rfl rfl ⟨rfl, rfl, rfl, rfl, rfl⟩ rfl rfl rfl rfl rfl (by kernel_rfl) Try.func7 (by kernel_rfl)
    (of_decide_eq_true (by kernel_rfl)) (by unfold Func.isWrapper; first | (rw [if_pos (by decide +kernel)]; kernel_rfl) | (rw [if_neg (by decide +kernel)]; exact ⟨rfl, rfl⟩))
    (fun os started H enc _ => lifted os started H enc)
theorem proved : Rows.FnExactPlayQueueSaid := over
#print axioms proved
end Go.Proofs.Ytoabnifimfcbcaa.fnExactPlayQueue
namespace Go.Proofs.Ytoabnifimfcbcaa
/-- The row, under a short name, for the claim. -/
theorem fnExactPlayQueue_holds : Rows.FnExactPlayQueueSaid := fnExactPlayQueue.proved
end Go.Proofs.Ytoabnifimfcbcaa

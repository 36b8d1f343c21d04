import Derived.Test.YtjhcfmcdllfmpaaRows
import Derived.Test.YtjhcfmcdllfmpaaWlFnExactRunSagaA
import Derived.Test.YtjhcfmcdllfmpaaPpSg3
import Derived.Test.YtjhcfmcdllfmpaaTlOpen
import Derived.WalkKit
import Derived.ProofKit
import Derived.OpenShut
import Derived.ShutString
import Derived.ChangeOld
import Derived.Below
import Derived.SizedLaws
set_option linter.unusedSimpArgs false
set_option linter.unusedVariables false
set_option linter.unusedVariables false
set_option linter.unusedSimpArgs false
namespace Go.TL
open Go
def eSaga (x : SagaT) : List Leaf := [.sl (x.Accounts.map eI), .sl (x.Moves.map eMove), .sc (.int .i64 x.Done), .sc (.bool x.Undoing)]
@[go_sem] theorem eSaga_ (x : SagaT) : eSaga x = [.sl (x.Accounts.map eI), .sl (x.Moves.map eMove), .sc (.int .i64 x.Done), .sc (.bool x.Undoing)] := rfl
@[go_sem] theorem fold_eSaga_set (l : List SagaT) (i : Nat) (v0 : (List Int)) (v1 : (List MoveT)) (v2 : Int) (v3 : Bool) : (l.map eSaga).set i [.sl (v0.map eI), .sl (v1.map eMove), .sc (.int .i64 v2), .sc (.bool v3)] = (l.set i (⟨v0, v1, v2, v3⟩ : SagaT)).map eSaga := by rw [List.map_set]; rfl
@[go_sem] theorem fold_eSaga_app (l : List SagaT) (v0 : (List Int)) (v1 : (List MoveT)) (v2 : Int) (v3 : Bool) : l.map eSaga ++ [[.sl (v0.map eI), .sl (v1.map eMove), .sc (.int .i64 v2), .sc (.bool v3)]] = (l ++ [(⟨v0, v1, v2, v3⟩ : SagaT)]).map eSaga := by rw [List.map_append]; rfl
theorem fold_eSaga_rep (n : Nat) : List.replicate n [.sl [], .sl [], .sc (.int .i64 0), .sc (.bool false)] = (List.replicate n (⟨[], [], 0, false⟩ : SagaT)).map eSaga := by rw [List.map_replicate]; rfl
end Go.TL
namespace Go.Proofs.Ytjhcfmcdllfmpaa.fnExactRunSaga
open Go.ChangeShapes Go.WideShapes Go.ChangeAt Go.RowKit Go.TL Go.TL.Ytjhcfmcdllfmpaa
set_option maxRecDepth 100000
theorem own : ownKnob Try.prog.godebug = none := by kernel_rfl
theorem op3 {n : Nat} {ls : List Leaf} (h : Shp Try.prog (n + 1) 3 ls) : ∃ x : Int, ls = eI x ∧ ok_I x := by
  obtain ⟨x, h1, h2⟩ := shp_int Try.underlying3 h
  exact ⟨x, h1, bounds_i64 h2⟩
set_option maxRecDepth 100000 in
theorem op23 {n : Nat} {ls : List Leaf} (h : Shp Try.prog (n + 2) 23 ls) : ∃ x : (List Int), ls = [.sl (x.map eI)] ∧ ok_LI x := by
  obtain ⟨xs, h1, h2, h3⟩ := shp_slice (f := eI) (p := ok_I) Try.underlying23 (fun r hr => op3 (n := n) hr) h
  exact ⟨xs, h1, by unfold maxLen at h2; exact ⟨h2, h3⟩⟩
set_option maxRecDepth 100000 in
theorem op89 {n : Nat} {ls : List Leaf} (h : Shp Try.prog (n + 2) 89 ls) : ∃ x : MoveT, ls = eMove x ∧ ok_Move x := by
  obtain ⟨a0, _, rfl, h0, a1, _, rfl, h1, a2, _, rfl, h2, rfl⟩ := shp_struct Try.underlying89 h
  obtain ⟨x0, rfl, g0⟩ := op3 (n := n + 0) h0
  obtain ⟨x1, rfl, g1⟩ := op3 (n := n + 0) h1
  obtain ⟨x2, rfl, g2⟩ := op3 (n := n + 0) h2
  exact ⟨⟨x0, x1, x2⟩, rfl, ⟨g0, g1, g2⟩⟩
set_option maxRecDepth 100000 in
theorem op44 {n : Nat} {ls : List Leaf} (h : Shp Try.prog (n + 3) 44 ls) : ∃ x : (List MoveT), ls = [.sl (x.map eMove)] ∧ ok_LMove x := by
  obtain ⟨xs, h1, h2, h3⟩ := shp_slice (f := eMove) (p := ok_Move) Try.underlying44 (fun r hr => op89 (n := n) hr) h
  exact ⟨xs, h1, by unfold maxLen at h2; exact ⟨h2, h3⟩⟩
theorem op4 {n : Nat} {ls : List Leaf} (h : Shp Try.prog (n + 1) 4 ls) : ∃ x : Bool, ls = eB x ∧ ok_B x := by
  obtain ⟨x, h1⟩ := shp_bool Try.underlying4 h
  exact ⟨x, h1, trivial⟩
set_option maxRecDepth 100000 in
theorem op46 {n : Nat} {ls : List Leaf} (h : Shp Try.prog (n + 4) 46 ls) : ∃ x : SagaT, ls = eSaga x ∧ ok_Saga x := by
  obtain ⟨a0, _, rfl, h0, a1, _, rfl, h1, a2, _, rfl, h2, a3, _, rfl, h3, rfl⟩ := shp_struct Try.underlying46 h
  obtain ⟨x0, rfl, g0⟩ := op23 (n := n + 1) h0
  obtain ⟨x1, rfl, g1⟩ := op44 (n := n + 0) h1
  obtain ⟨x2, rfl, g2⟩ := op3 (n := n + 2) h2
  obtain ⟨x3, rfl, g3⟩ := op4 (n := n + 2) h3
  exact ⟨⟨x0, x1, x2, x3⟩, rfl, ⟨g0, g1, g2, g3⟩⟩
set_option maxRecDepth 100000 in
theorem law (ls : List (List Leaf)) (h : ShpAll Try.prog 4 [46, 3] ls) : ∃ nx, Go.TL.Fn Try.prog 5 (argsLV Try.prog [46, 3] ls) [] 0 (.lf false (.sc (.bool true))) [] nx := by
  obtain ⟨a0, _, rfl, h0, a1, _, rfl, h1, rfl⟩ := h
  obtain ⟨x0, rfl, g0⟩ := op46 (n := 0) h0
  obtain ⟨x1, rfl, g1⟩ := op3 (n := 3) h1
  simp only [argsLV, argLV, Try.underlying46, Try.underlying3, lfOf, List.map_cons, List.map_nil, List.cons_append, List.nil_append, eSaga, eI]
  exact ⟨_, w_laws_FnExactRunSaga (runSaga_holds x0 x1 g0)⟩
set_option maxRecDepth 100000 in
theorem lifted (os : Os) (started : os.Started) (H : Type) (enc : TypeId × Value → H) :
    ReturnsInHanded {} Try.checked os 5 .any (Rows.fnExactRunSagaSpec.pre6 enc Try.prog Try.f5 Rows.fnExactRunSagaRow.domain false) (Rows.fnExactRunSagaSpec.post enc Try.prog Try.f5 false true false false) := by
  refine returnsInHanded_of_change_sized (C := Try.checked) own started (by kernel_rfl) Try.func5
    (ChangeSpec.witness6 (enc := enc) (C := Try.checked) false ⟨#[], #[.agg #[.slice none 0 0, .slice none 0 0, .int .i64 0, .bool false], .int .i64 0], []⟩ 8 (by kernel_rfl) (by kernel_rfl) (by kernel_rfl) (by kernel_rfl)) ?_
  intro W base args ds gs before hval0 hW hcnd hsz0 _
  have hval : ∀ (j : Nat) t v, Try.f5.params[j]? = some t → args[j]? = some v → Value.okWide Try.prog W .any base t v := hval0
  have hW' := hW
  obtain ⟨p, q, hA0, hV, rfl, hfz, hnd⟩ := hW
  have hA : DataW.TrodAll enc Try.prog W 0 (fun _ => true) true Try.f5.params.toList args.toList ds p := hA0
  rw [Try.params5] at hA hval
  obtain ⟨rfl, rfl⟩ := trodVars_none hV
  obtain ⟨hlen, hc⟩ := law_calls (n := 4) (base := base) (f := 5) (by kernel_rfl) (fun j t v h1 h2 => hval j t v (by simpa using h1) h2) hA law
  refine hc.mono fun e W' ⟨he, bel⟩ => ?_
  subst he
  have hback := backAll (enc := enc) (P := Try.prog) (by kernel_rfl) bel (by kernel_rfl) (fun x hx => hW'.lt x (by simpa using hx)) hA
  match ds, hlen with
  | [d0, d1], _ => exact ⟨_, rfl, _, _, _, [], _, [], hW', trodAll_mk1 (shut_bool Try.underlying4 _), hback, rfl, bel.frame _, fun h => by cases h⟩

theorem over : Rows.fnExactRunSagaRow.holds Try.pinned (OpenSpec.ofChange Rows.fnExactRunSagaSpec) :=
  OpenClaim.holds_of_wide 5 Try.f5 rfl rfl rfl rfl rfl rfl rfl ⟨rfl, rfl, rfl, rfl, rfl⟩ rfl rfl rfl rfl rfl (by kernel_rfl) Try.func5 (by kernel_rfl)
    (of_decide_eq_true (by kernel_rfl)) (by unfold Func.isWrapper; first | (rw [if_pos (by decide +kernel)]; kernel_rfl) | (rw [if_neg (by decide +kernel)]; exact ⟨rfl, rfl⟩))
    (fun os started H enc _ => lifted os started H enc)
theorem proved : Rows.FnExactRunSagaSaid := over
#print axioms proved
end Go.Proofs.Ytjhcfmcdllfmpaa.fnExactRunSaga
namespace Go.Proofs.Ytjhcfmcdllfmpaa
/-- The row, under a short name, for the claim. -/
theorem fnExactRunSaga_holds : Rows.FnExactRunSagaSaid := fnExactRunSaga.proved
end Go.Proofs.Ytjhcfmcdllfmpaa

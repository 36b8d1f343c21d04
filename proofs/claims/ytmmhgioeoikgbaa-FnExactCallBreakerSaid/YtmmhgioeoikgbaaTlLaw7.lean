/- FnExactCallBreaker answers true for all arguments, and leaves them as they were; no condition. -/
import Derived.Test.YtmmhgioeoikgbaaRows
import Derived.Test.YtmmhgioeoikgbaaTlT2
import Derived.Test.YtmmhgioeoikgbaaTlOpen
import Derived.WalkKit
import Derived.ProofKit
import Derived.OpenShut
import Derived.ShutString
import Derived.ChangeOld
import Derived.Below
import Derived.SizedLaws
set_option linter.unusedSimpArgs false
set_option linter.unusedVariables false
namespace Go.Proofs.Ytmmhgioeoikgbaa.fnExactCallBreaker
open Go.ChangeShapes Go.WideShapes Go.ChangeAt Go.RowKit Go.TL Go.TL.Ytmmhgioeoikgbaa
set_option maxRecDepth 100000
theorem own : ownKnob Try.prog.godebug = none := by kernel_rfl
def rg3 (x : Int) : Prop := -9223372036854775808 ≤ x ∧ x ≤ 9223372036854775807
abbrev row3 (x : Int) : List Leaf := [.sc (.int .i64 x)]
theorem op3 {n : Nat} {ls : List Leaf} (h : Shp Try.prog (n + 1) 3 ls) : ∃ x : Int, ls = [.sc (.int .i64 x)] ∧ rg3 x := by
  obtain ⟨x, h1, h2⟩ := shp_int Try.underlying3 h
  exact ⟨x, h1, bounds_i64 h2⟩
def rg34 (x : Brk) : Prop := rg3 x.L ∧ rg3 x.C ∧ rg3 x.S ∧ rg3 x.F ∧ rg3 x.O
def row34 (x : Brk) : List Leaf := row3 x.L ++ row3 x.C ++ row3 x.S ++ row3 x.F ++ row3 x.O
set_option maxRecDepth 100000 in
theorem op34 {n : Nat} {ls : List Leaf} (h : Shp Try.prog (n + 2) 34 ls) : ∃ x : Brk, ls = row34 x ∧ rg34 x := by
  obtain ⟨a0, _, rfl, h0, a1, _, rfl, h1, a2, _, rfl, h2, a3, _, rfl, h3, a4, _, rfl, h4, rfl⟩ := shp_struct Try.underlying34 h
  obtain ⟨x0, rfl, g0⟩ := op3 (n := n + 0) h0
  obtain ⟨x1, rfl, g1⟩ := op3 (n := n + 0) h1
  obtain ⟨x2, rfl, g2⟩ := op3 (n := n + 0) h2
  obtain ⟨x3, rfl, g3⟩ := op3 (n := n + 0) h3
  obtain ⟨x4, rfl, g4⟩ := op3 (n := n + 0) h4
  exact ⟨⟨x0, x1, x2, x3, x4⟩, rfl, g0, g1, g2, g3, g4⟩
abbrev row4 (x : Bool) : List Leaf := [.sc (.bool x)]
def rg4 (_ : Bool) : Prop := True
theorem op4 {n : Nat} {ls : List Leaf} (h : Shp Try.prog (n + 1) 4 ls) : ∃ x : Bool, ls = [.sc (.bool x)] ∧ rg4 x := by
  obtain ⟨x, h1⟩ := shp_bool Try.underlying4 h
  exact ⟨x, h1, trivial⟩
def rg36 (x : Cal) : Prop := rg3 x.now ∧ rg4 x.fine
def row36 (x : Cal) : List Leaf := row3 x.now ++ row4 x.fine
set_option maxRecDepth 100000 in
theorem op36 {n : Nat} {ls : List Leaf} (h : Shp Try.prog (n + 2) 36 ls) : ∃ x : Cal, ls = row36 x ∧ rg36 x := by
  obtain ⟨a0, _, rfl, h0, a1, _, rfl, h1, rfl⟩ := shp_struct Try.underlying36 h
  obtain ⟨x0, rfl, g0⟩ := op3 (n := n + 0) h0
  obtain ⟨x1, rfl, g1⟩ := op4 (n := n + 0) h1
  exact ⟨⟨x0, x1⟩, rfl, g0, g1⟩
set_option maxRecDepth 100000 in
theorem law (ls : List (List Leaf)) (h : ShpAll Try.prog 2 [34, 36] ls) : ∃ nx, Go.TL.Fn Try.prog 7 (argsLV Try.prog [34, 36] ls) [] 0 (.lf false (.sc (.bool true))) [] nx := by
  obtain ⟨a0, _, rfl, h0, a1, _, rfl, h1, rfl⟩ := h
  obtain ⟨x0, rfl, g0⟩ := op34 (n := 0) h0
  obtain ⟨x1, rfl, g1⟩ := op36 (n := 0) h1
  simp only [argsLV, argLV, Try.underlying34, Try.underlying36, lfOf, List.map_cons, List.map_nil, List.cons_append, List.nil_append, row3, row34, row4, row36]
  exact ⟨_, f7 x0 x1.now x1.fine⟩
set_option maxRecDepth 100000 in
theorem lifted (os : Os) (started : os.Started) (H : Type) (enc : TypeId × Value → H) :
    ReturnsInHanded {} Try.checked os 7 .any (Rows.fnExactCallBreakerSpec.pre6 enc Try.prog Try.f7 Rows.fnExactCallBreakerRow.domain false) (Rows.fnExactCallBreakerSpec.post enc Try.prog Try.f7 false true false false) := by
  refine returnsInHanded_of_change_sized (C := Try.checked) own started (by kernel_rfl) Try.func7
    (ChangeSpec.witness6 (enc := enc) (C := Try.checked) false ⟨#[], #[.agg #[.int .i64 0, .int .i64 0, .int .i64 0, .int .i64 0, .int .i64 0], .agg #[.int .i64 0, .bool false]], []⟩ 8 (by kernel_rfl) (by kernel_rfl) (by kernel_rfl) (by kernel_rfl)) ?_
  intro W base args ds gs before hval0 hW hcnd hsz0 _
  have hval : ∀ (j : Nat) t v, Try.f7.params[j]? = some t → args[j]? = some v → Value.okWide Try.prog W .any base t v := hval0
  have hW' := hW
  obtain ⟨p, q, hA0, hV, rfl, hfz, hnd⟩ := hW
  have hA : DataW.TrodAll enc Try.prog W 0 (fun _ => true) true Try.f7.params.toList args.toList ds p := hA0
  rw [Try.params7] at hA hval
  obtain ⟨rfl, rfl⟩ := trodVars_none hV
  obtain ⟨hlen, hc⟩ := law_calls (n := 2) (f := 7) (by kernel_rfl) (fun j t v h1 h2 => hval j t v (by simpa using h1) h2) hA law
  refine hc.mono fun e W' ⟨he, bel⟩ => ?_
  subst he
  have hback := backAll (enc := enc) (P := Try.prog) (by kernel_rfl) bel (by kernel_rfl) (fun x hx => hW'.lt x (by simpa using hx)) hA
  match ds, hlen with
  | [d0, d1], _ => exact ⟨_, rfl, _, _, _, [], _, [], hW', trodAll_mk1 (shut_bool Try.underlying4 _), hback, rfl, bel.frame _, fun h => by cases h⟩

theorem over : Rows.fnExactCallBreakerRow.holds Try.pinned (OpenSpec.ofChange Rows.fnExactCallBreakerSpec) :=
  OpenClaim.holds_of_wide 7 Try.f7 rfl rfl rfl rfl rfl rfl rfl ⟨rfl, rfl, rfl, rfl, rfl⟩ rfl rfl rfl rfl rfl (by kernel_rfl) Try.func7 (by kernel_rfl)
    (of_decide_eq_true (by kernel_rfl)) (by unfold Func.isWrapper; first | (rw [if_pos (by decide +kernel)]; kernel_rfl) | (rw [if_neg (by decide +kernel)]; exact ⟨rfl, rfl⟩))
    (fun os started H enc _ => lifted os started H enc)
theorem proved : Rows.FnExactCallBreakerSaid := over
#print axioms proved
end Go.Proofs.Ytmmhgioeoikgbaa.fnExactCallBreaker
namespace Go.Proofs.Ytmmhgioeoikgbaa
/-- The row, under a short name, for the claim. -/
theorem fnExactCallBreaker_holds : Rows.FnExactCallBreakerSaid := fnExactCallBreaker.proved
end Go.Proofs.Ytmmhgioeoikgbaa

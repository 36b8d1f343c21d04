/- FnExactPlayBreaker answers true for all arguments, and leaves them as they were; no condition. -/
import Derived.Test.YtmmhgioeoikgbaaRows
import Derived.Test.YtmmhgioeoikgbaaTlT7
import Derived.Test.YtmmhgioeoikgbaaTlOpen
import Derived.WalkKit
import Derived.ProofKit
import Derived.OpenShut
import Derived.ShutString
import Derived.ChangeOld
import Derived.Below
import Derived.SizedLaws
set_option linter.unusedSimpArgs false
set_option linter.unusedVariables false
namespace Go.Proofs.Ytmmhgioeoikgbaa.fnExactPlayBreaker
open Go.ChangeShapes Go.WideShapes Go.ChangeAt Go.RowKit Go.TL Go.TL.Ytmmhgioeoikgbaa
set_option maxRecDepth 100000
theorem own : ownKnob Try.prog.godebug = none := by kernel_rfl
def rg3 (x : Int) : Prop := -9223372036854775808 ≤ x ∧ x ≤ 9223372036854775807
abbrev row3 (x : Int) : List Leaf := [.sc (.int .i64 x)]
theorem op3 {n : Nat} {ls : List Leaf} (h : Shp Try.prog (n + 1) 3 ls) : ∃ x : Int, ls = [.sc (.int .i64 x)] ∧ rg3 x := by
  obtain ⟨x, h1, h2⟩ := shp_int Try.underlying3 h
  exact ⟨x, h1, bounds_i64 h2⟩
abbrev row4 (x : Bool) : List Leaf := [.sc (.bool x)]
def rg4 (_ : Bool) : Prop := True
theorem op4 {n : Nat} {ls : List Leaf} (h : Shp Try.prog (n + 1) 4 ls) : ∃ x : Bool, ls = [.sc (.bool x)] ∧ rg4 x := by
  obtain ⟨x, h1⟩ := shp_bool Try.underlying4 h
  exact ⟨x, h1, trivial⟩
def rg36 (x : Cal) : Prop := rg3 x.now ∧ rg4 x.fine
def row36 (x : Cal) : List Leaf := row3 x.now ++ row4 x.fine
set_option maxRecDepth 100000 in
theorem op36 {n : Nat} {ls : List Leaf} (h : Shp Try.prog (n + 2) 36 ls) : ∃ x : Cal, ls = row36 x ∧ rg36 x := by
  obtain ⟨a0, _, rfl, h0, a1, _, rfl, h1, rfl⟩ := shp_struct Try.underlying36 h
  obtain ⟨x0, rfl, g0⟩ := op3 (n := n + 0) h0
  obtain ⟨x1, rfl, g1⟩ := op4 (n := n + 0) h1
  exact ⟨⟨x0, x1⟩, rfl, g0, g1⟩
def row62 (x : List Cal) : List Leaf := (fun x => [.sl (x.map row36)]) x
def rg62 (xs : List Cal) : Prop := xs.length ≤ maxLen ∧ ∀ x ∈ xs, rg36 x
set_option maxRecDepth 100000 in
theorem op62 {n : Nat} {ls : List Leaf} (h : Shp Try.prog (n + 3) 62 ls) : ∃ x : List Cal, ls = [.sl (x.map row36)] ∧ rg62 x := by
  obtain ⟨xs, h1, h2, h3⟩ := shp_slice (f := row36) (p := rg36) Try.underlying62 (fun r hr => op36 (n := n) hr) h
  exact ⟨xs, h1, h2, h3⟩
set_option maxRecDepth 100000 in
theorem law (ls : List (List Leaf)) (h : ShpAll Try.prog 3 [3, 3, 62] ls) : ∃ nx, Go.TL.Fn Try.prog 10 (argsLV Try.prog [3, 3, 62] ls) [] 0 (.lf false (.sc (.bool true))) [] nx := by
  obtain ⟨a0, _, rfl, h0, a1, _, rfl, h1, a2, _, rfl, h2, rfl⟩ := h
  obtain ⟨x0, rfl, g0⟩ := op3 (n := 2) h0
  obtain ⟨x1, rfl, g1⟩ := op3 (n := 2) h1
  obtain ⟨x2, rfl, g2⟩ := op62 (n := 0) h2
  simp only [argsLV, argLV, Try.underlying3, Try.underlying62, lfOf, List.map_cons, List.map_nil, List.cons_append, List.nil_append, row3, row4, row36, row62]
  have e : x2.map row36 = x2.map rC := rfl
  rw [e]
  by_cases h : x2.length ≤ 1048576
  · exact ⟨_, f10 x0 x1 x2 h⟩
  · exact ⟨_, f10big x0 x1 x2 (by have := g2.1; unfold maxLen at this; omega) (by omega)⟩
set_option maxRecDepth 100000 in
theorem lifted (os : Os) (started : os.Started) (H : Type) (enc : TypeId × Value → H) :
    ReturnsInHanded {} Try.checked os 10 .any (Rows.fnExactPlayBreakerSpec.pre6 enc Try.prog Try.f10 Rows.fnExactPlayBreakerRow.domain false) (Rows.fnExactPlayBreakerSpec.post enc Try.prog Try.f10 false true false false) := by
  refine returnsInHanded_of_change_sized (C := Try.checked) own started (by kernel_rfl) Try.func10
    (ChangeSpec.witness6 (enc := enc) (C := Try.checked) false ⟨#[], #[.int .i64 0, .int .i64 0, .slice none 0 0], []⟩ 8 (by kernel_rfl) (by kernel_rfl) (by kernel_rfl) (by kernel_rfl)) ?_
  intro W base args ds gs before hval0 hW hcnd hsz0 _
  have hval : ∀ (j : Nat) t v, Try.f10.params[j]? = some t → args[j]? = some v → Value.okWide Try.prog W .any base t v := hval0
  have hW' := hW
  obtain ⟨p, q, hA0, hV, rfl, hfz, hnd⟩ := hW
  have hA : DataW.TrodAll enc Try.prog W 0 (fun _ => true) true Try.f10.params.toList args.toList ds p := hA0
  rw [Try.params10] at hA hval
  obtain ⟨rfl, rfl⟩ := trodVars_none hV
  obtain ⟨hlen, hc⟩ := law_calls (n := 3) (f := 10) (by kernel_rfl) (fun j t v h1 h2 => hval j t v (by simpa using h1) h2) hA law
  refine hc.mono fun e W' ⟨he, bel⟩ => ?_
  subst he
  have hback := backAll (enc := enc) (P := Try.prog) (by kernel_rfl) bel (by kernel_rfl) (fun x hx => hW'.lt x (by simpa using hx)) hA
  match ds, hlen with
  | [d0, d1, d2], _ => exact ⟨_, rfl, _, _, _, [], _, [], hW', trodAll_mk1 (shut_bool Try.underlying4 _), hback, rfl, bel.frame _, fun h => by cases h⟩

theorem over : Rows.fnExactPlayBreakerRow.holds Try.pinned (OpenSpec.ofChange Rows.fnExactPlayBreakerSpec) :=
  OpenClaim.holds_of_wide 10 Try.f10 rfl rfl rfl rfl rfl rfl rfl ⟨rfl, rfl, rfl, rfl, rfl⟩ rfl rfl rfl rfl rfl (by kernel_rfl) Try.func10 (by kernel_rfl)
    (of_decide_eq_true (by kernel_rfl)) (by unfold Func.isWrapper; first | (rw [if_pos (by decide +kernel)]; kernel_rfl) | (rw [if_neg (by decide +kernel)]; exact ⟨rfl, rfl⟩))
    (fun os started H enc _ => lifted os started H enc)
theorem proved : Rows.FnExactPlayBreakerSaid := over
#print axioms proved
end Go.Proofs.Ytmmhgioeoikgbaa.fnExactPlayBreaker
namespace Go.Proofs.Ytmmhgioeoikgbaa
/-- The row, under a short name, for the claim. -/
theorem fnExactPlayBreaker_holds : Rows.FnExactPlayBreakerSaid := fnExactPlayBreaker.proved
end Go.Proofs.Ytmmhgioeoikgbaa

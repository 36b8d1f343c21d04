import Derived.Test.YtjhcfmcdllfmpaaRows
import Derived.Test.YtjhcfmcdllfmpaaWlFnUndoneA
import Derived.Test.YtjhcfmcdllfmpaaPpSg5
import Derived.Test.YtjhcfmcdllfmpaaTlOpen
import Derived.WalkKit
import Derived.ProofKit
import Derived.OpenShut
import Derived.ShutString
import Derived.ChangeOld
import Derived.Below
import Derived.SizedLaws
set_option linter.unusedSimpArgs false
set_option linter.unusedVariables false
set_option linter.unusedVariables false
set_option linter.unusedSimpArgs false
namespace Go.TL
open Go
def eLU8 (x : (List Int)) : List Leaf := [.sl (x.map eU8)]
@[go_sem] theorem eLU8_ (x : (List Int)) : eLU8 x = [.sl (x.map eU8)] := rfl
@[go_sem] theorem fold_eLU8_set (l : List (List Int)) (i : Nat) (v : (List Int)) : (l.map eLU8).set i [.sl (v.map eU8)] = (l.set i v).map eLU8 := by rw [List.map_set]; rfl
@[go_sem] theorem fold_eLU8_app (l : List (List Int)) (v : (List Int)) : l.map eLU8 ++ [[.sl (v.map eU8)]] = (l ++ [v]).map eLU8 := by rw [List.map_append]; rfl
theorem fold_eLU8_rep (n : Nat) : List.replicate n [.sl []] = (List.replicate n []).map eLU8 := by rw [List.map_replicate]; rfl
def ok_U8 (x : Int) : Prop := 0 ≤ x ∧ x ≤ 255
def siz_U8 (_ : Int) : Nat := 0
def lk_U8 (_ : Int) : Prop := True
theorem lk_of_U8 {x : Int} (_ : ok_U8 x) : lk_U8 x := trivial
def ok_LU8 (x : (List Int)) : Prop := x.length ≤ 9223372036854775807 ∧ ∀ y ∈ x, ok_U8 y
def siz_LU8 (x : (List Int)) : Nat := x.length + sumN (x.map siz_U8)
def lk_LU8 (x : (List Int)) : Prop := x.length ≤ 9223372036854775807 ∧ ∀ y ∈ x, lk_U8 y
theorem lk_of_LU8 {x : (List Int)} (h : ok_LU8 x) : lk_LU8 x := ⟨h.1, fun y hy => lk_of_U8 (h.2 y hy)⟩
end Go.TL
namespace Go.Proofs.Ytjhcfmcdllfmpaa.fnUndone
open Go.ChangeShapes Go.WideShapes Go.ChangeAt Go.RowKit Go.TL Go.TL.Ytjhcfmcdllfmpaa
set_option maxRecDepth 100000
theorem own : ownKnob Try.prog.godebug = none := by kernel_rfl
theorem op5 {n : Nat} {ls : List Leaf} (h : Shp Try.prog (n + 1) 5 ls) : ∃ x : Int, ls = eU8 x ∧ ok_U8 x := by
  obtain ⟨x, h1, h2⟩ := shp_int Try.underlying5 h
  exact ⟨x, h1, bounds_u8 h2⟩
set_option maxRecDepth 100000 in
theorem op22 {n : Nat} {ls : List Leaf} (h : Shp Try.prog (n + 2) 22 ls) : ∃ x : (List Int), ls = [.sl (x.map eU8)] ∧ ok_LU8 x := by
  obtain ⟨xs, h1, h2, h3⟩ := shp_slice (f := eU8) (p := ok_U8) Try.underlying22 (fun r hr => op5 (n := n) hr) h
  exact ⟨xs, h1, by unfold maxLen at h2; exact ⟨h2, h3⟩⟩
set_option maxRecDepth 100000 in
theorem law (ls : List (List Leaf)) (h : ShpAll Try.prog 2 [22, 22] ls) : ∃ nx, Go.TL.Fn Try.prog 3 (argsLV Try.prog [22, 22] ls) [] 0 (.lf false (.sc (.bool true))) [] nx := by
  obtain ⟨a0, _, rfl, h0, a1, _, rfl, h1, rfl⟩ := h
  obtain ⟨x0, rfl, g0⟩ := op22 (n := 0) h0
  obtain ⟨x1, rfl, g1⟩ := op22 (n := 0) h1
  simp only [argsLV, argLV, Try.underlying22, lfOf, List.map_cons, List.map_nil, List.cons_append, List.nil_append, eLU8]
  exact ⟨_, w_laws_FnUndone (fnUndone_holds' x0 x1 g0.1 g1.1 g0.2 g1.2)⟩
set_option maxRecDepth 100000 in
theorem lifted (os : Os) (started : os.Started) (H : Type) (enc : TypeId × Value → H) :
    ReturnsInHanded {} Try.checked os 3 .any (Rows.fnUndoneSpec.pre6 enc Try.prog Try.f3 Rows.fnUndoneRow.domain false) (Rows.fnUndoneSpec.post enc Try.prog Try.f3 false true false false) := by
  refine returnsInHanded_of_change_sized (C := Try.checked) own started (by kernel_rfl) Try.func3
    (ChangeSpec.witness6 (enc := enc) (C := Try.checked) false ⟨#[], #[.slice none 0 0, .slice none 0 0], []⟩ 8 (by kernel_rfl) (by kernel_rfl) (by kernel_rfl) (by kernel_rfl)) ?_
  intro W base args ds gs before hval0 hW hcnd hsz0 _
  have hval : ∀ (j : Nat) t v, Try.f3.params[j]? = some t → args[j]? = some v → Value.okWide Try.prog W .any base t v := hval0
  have hW' := hW
  obtain ⟨p, q, hA0, hV, rfl, hfz, hnd⟩ := hW
  have hA : DataW.TrodAll enc Try.prog W 0 (fun _ => true) true Try.f3.params.toList args.toList ds p := hA0
  rw [Try.params3] at hA hval
  obtain ⟨rfl, rfl⟩ := trodVars_none hV
  obtain ⟨hlen, hc⟩ := law_calls (n := 2) (base := base) (f := 3) (by kernel_rfl) (fun j t v h1 h2 => hval j t v (by simpa using h1) h2) hA law
  refine hc.mono fun e W' ⟨he, bel⟩ => ?_
  subst he
  have hback := backAll (enc := enc) (P := Try.prog) (by kernel_rfl) bel (by kernel_rfl) (fun x hx => hW'.lt x (by simpa using hx)) hA
  match ds, hlen with
  | [d0, d1], _ => exact ⟨_, rfl, _, _, _, [], _, [], hW', trodAll_mk1 (shut_bool Try.underlying4 _), hback, rfl, bel.frame _, fun h => by cases h⟩

theorem over : Rows.fnUndoneRow.holds Try.pinned (OpenSpec.ofChange Rows.fnUndoneSpec) :=
  OpenClaim.holds_of_wide 3 Try.f3 rfl rfl rfl rfl rfl rfl rfl ⟨rfl, rfl, rfl, rfl, rfl⟩ rfl rfl rfl rfl rfl (by kernel_rfl) Try.func3 (by kernel_rfl)
    (of_decide_eq_true (by kernel_rfl)) (by unfold Func.isWrapper; first | (rw [if_pos (by decide +kernel)]; kernel_rfl) | (rw [if_neg (by decide +kernel)]; exact ⟨rfl, rfl⟩))
    (fun os started H enc _ => lifted os started H enc)
theorem proved : Rows.FnUndoneSaid := over
#print axioms proved
end Go.Proofs.Ytjhcfmcdllfmpaa.fnUndone
namespace Go.Proofs.Ytjhcfmcdllfmpaa
/-- The row, under a short name, for the claim. -/
theorem fnUndone_holds : Rows.FnUndoneSaid := fnUndone.proved
end Go.Proofs.Ytjhcfmcdllfmpaa

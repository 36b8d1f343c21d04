import Derived.Test.YtjhcfmcdllfmpaaDoorCards
import Derived.Test.YtjhcfmcdllfmpaaDoorTie
import Derived.LaidMore
import Derived.Lay
import Derived.SevenTiedAt
import Derived.Stop.Joined
import Derived.Test.YtjhcfmcdllfmpaaDoorWlFnStatesA
import Derived.Test.YtjhcfmcdllfmpaaDoorPpFnStates
import Derived.Test.YtjhcfmcdllfmpaaDoorTlOpen
import Derived.WalkKit
import Derived.ProofKit
import Derived.OpenShut
import Derived.ShutString
import Derived.ChangeOld
import Derived.Below
import Derived.SizedLaws
set_option linter.unusedSimpArgs false
set_option linter.unusedVariables false
set_option linter.unusedVariables false
set_option linter.unusedSimpArgs false
namespace Go.TL
open Go
def eLU8 (x : (List Int)) : List Leaf := [.sl (x.map eU8)]
@[go_sem] theorem eLU8_ (x : (List Int)) : eLU8 x = [.sl (x.map eU8)] := rfl
@[go_sem] theorem fold_eLU8_set (l : List (List Int)) (i : Nat) (v : (List Int)) : (l.map eLU8).set i [.sl (v.map eU8)] = (l.set i v).map eLU8 := by rw [List.map_set]; rfl
@[go_sem] theorem fold_eLU8_app (l : List (List Int)) (v : (List Int)) : l.map eLU8 ++ [[.sl (v.map eU8)]] = (l ++ [v]).map eLU8 := by rw [List.map_append]; rfl
theorem fold_eLU8_rep (n : Nat) : List.replicate n [.sl []] = (List.replicate n []).map eLU8 := by rw [List.map_replicate]; rfl
def ok_U8 (x : Int) : Prop := 0 ≤ x ∧ x ≤ 255
def siz_U8 (_ : Int) : Nat := 0
def lk_U8 (_ : Int) : Prop := True
theorem lk_of_U8 {x : Int} (_ : ok_U8 x) : lk_U8 x := trivial
def ok_LU8 (x : (List Int)) : Prop := x.length ≤ 9223372036854775807 ∧ ∀ y ∈ x, ok_U8 y
def siz_LU8 (x : (List Int)) : Nat := x.length + sumN (x.map siz_U8)
def lk_LU8 (x : (List Int)) : Prop := x.length ≤ 9223372036854775807 ∧ ∀ y ∈ x, lk_U8 y
theorem lk_of_LU8 {x : (List Int)} (h : ok_LU8 x) : lk_LU8 x := ⟨h.1, fun y hy => lk_of_U8 (h.2 y hy)⟩
end Go.TL
namespace Go.Proofs.YtjhcfmcdllfmpaaDoor.fnStates
open Go.ChangeShapes Go.WideShapes Go.ChangeAt Go.RowKit Go.TL Go.TL.YtjhcfmcdllfmpaaDoor
set_option maxRecDepth 100000
theorem own : ownKnob Tryd.prog.godebug = none := by kernel_rfl
theorem op5 {n : Nat} {ls : List Leaf} (h : Shp Tryd.prog (n + 1) 5 ls) : ∃ x : Int, ls = eU8 x ∧ ok_U8 x := by
  obtain ⟨x, h1, h2⟩ := shp_int Tryd.underlying5 h
  exact ⟨x, h1, bounds_u8 h2⟩
set_option maxRecDepth 100000 in
theorem op43 {n : Nat} {ls : List Leaf} (h : Shp Tryd.prog (n + 2) 43 ls) : ∃ x : (List Int), ls = [.sl (x.map eU8)] ∧ ok_LU8 x := by
  obtain ⟨xs, h1, h2, h3⟩ := shp_slice (f := eU8) (p := ok_U8) Tryd.underlying43 (fun r hr => op5 (n := n) hr) h
  exact ⟨xs, h1, by unfold maxLen at h2; exact ⟨h2, h3⟩⟩
set_option maxRecDepth 100000 in
theorem law (ls : List (List Leaf)) (h : ShpAll Tryd.prog 2 [43, 43] ls) : ∃ nx, Go.TL.Fn Tryd.prog 6 (argsLV Tryd.prog [43, 43] ls) [] 0 (.lf false (.sc (.bool true))) [] nx := by
  obtain ⟨a0, _, rfl, h0, a1, _, rfl, h1, rfl⟩ := h
  obtain ⟨x0, rfl, g0⟩ := op43 (n := 0) h0
  obtain ⟨x1, rfl, g1⟩ := op43 (n := 0) h1
  simp only [argsLV, argLV, Tryd.underlying43, lfOf, List.map_cons, List.map_nil, List.cons_append, List.nil_append, eLU8]
  exact ⟨_, w_laws_FnStates (states_holds x0 x1 g0.2 g1.2)⟩
set_option maxRecDepth 100000 in
theorem lifted (os : Os) (started : os.Started) (H : Type) (enc : TypeId × Value → H) :
    ReturnsInHanded {} Tryd.checked os 6 .any (fun w args => (Rows.fnStatesSpec.pre enc Tryd.prog Tryd.f6 Rows.fnStatesRow.domain false w args ∧ laidMetH Tryd.prog Rows.fnStatesRow.laid w) ∧ sizedMet enc Tryd.prog Tryd.f6 (OpenSpec.ofChange Rows.fnStatesSpec) false w args)
      (Rows.fnStatesSpec.post enc Tryd.prog Tryd.f6 false true false false) := by
  refine returnsInHanded_of_change_and (C := Tryd.checked) (X := fun w _ => laidMetH Tryd.prog Rows.fnStatesRow.laid w) (fun _ _ _ hh h => h.of_heap hh) own started (by kernel_rfl) Tryd.func6
    (ChangeSpec.witness_shaped (enc := enc) (C := Tryd.checked) (os := os) (X := fun w _ => laidMetH Tryd.prog Rows.fnStatesRow.laid w) false (World.laidAll Tryd.prog os Rows.fnStatesRow.laid) #[.slice none 0 0, .slice none 0 0] 8 (World.laidAll_os _ _ _)
      (World.shaped_of_ZipB (by kernel_rfl) (by kernel_rfl)) (by kernel_rfl) (by kernel_rfl) (by kernel_rfl)
      (by rw [MakeChecks.laidMetH_plain _ _ _ (by kernel_rfl)]; exact laidMet_laidAll _ (by kernel_rfl) (by kernel_rfl))) ?_
  intro W base args ds gs before hval0 hW hcnd _ hL _
  have hval : ∀ (j : Nat) t v, Tryd.f6.params[j]? = some t → args[j]? = some v → Value.okWide Tryd.prog W .any base t v := hval0
  have hW' := hW
  obtain ⟨p, q, hA0, hV, rfl, hfz, hnd⟩ := hW
  have hA : DataW.TrodAll enc Tryd.prog W 0 (fun _ => true) true Tryd.f6.params.toList args.toList ds p := hA0
  rw [Tryd.params6] at hA hval
  obtain ⟨rfl, rfl⟩ := trodVars_none hV
  obtain ⟨hlen, hc⟩ := law_calls (n := 2) (base := base) (f := 6) (by kernel_rfl) (fun j t v h1 h2 => hval j t v (by simpa using h1) h2) hA law
  refine hc.mono fun e W' ⟨he, bel⟩ => ?_
  subst he
  have hback := backAll (enc := enc) (P := Tryd.prog) (by kernel_rfl) bel (by kernel_rfl) (fun x hx => hW'.lt x (by simpa using hx)) hA
  match ds, hlen with
  | [d0, d1], _ => exact ⟨_, rfl, _, _, _, [], _, [], hW', trodAll_mk1 (shut_bool Tryd.underlying4 _), hback, rfl, bel.frame _, fun h => by cases h⟩
theorem over : Rows.fnStatesRow.holds Tryd.pinned (OpenSpec.ofChange Rows.fnStatesSpec) :=
  OpenClaim.holds_of_wide 6 Tryd.f6 rfl rfl rfl rfl rfl rfl rfl ⟨rfl, rfl, rfl, rfl, rfl⟩ rfl rfl rfl rfl rfl (by kernel_rfl) Tryd.func6 (by kernel_rfl)
    (of_decide_eq_true (by kernel_rfl)) (by unfold Func.isWrapper; first | (rw [if_pos (by decide +kernel)]; kernel_rfl) | (rw [if_neg (by decide +kernel)]; exact ⟨rfl, rfl⟩))
    (fun os started H enc _ => lifted os started H enc)
theorem proved : Rows.FnStatesCardSaid :=
  Claim7.holds_tied_plain_at .later [] [.data, .pinned] true (true, "1a02d525c2173f2868820232be41ce8cb5649ae31f6d418f0bc0682686b91d5e") false over (fun _ h => by cases h) (by kernel_rfl) (fun _ h => by cases h) fnStates_row_tie rfl ⟨rfl, rfl⟩ (by kernel_rfl) rfl
    (fun f fn hf hfn => by
      obtain rfl : f = 6 := Option.some.inj ((show Tryd.prog.funcNamed "loop.example/g00269/laws.FnStates" = some 6 by kernel_rfl).symm.trans hf) |>.symm
      obtain rfl : fn = Tryd.f6 := (Option.some.inj (Tryd.func6.symm.trans hfn)).symm
      exact ⟨by kernel_rfl, fun j t ht => by
        rw [Tryd.params6] at ht
        have hm : t ∈ [43] := by have := Array.mem_of_getElem? ht; simpa using this
        have hall : ([43].all fun u => !Tryd.prog.wantsStandIn u) = true := by kernel_rfl
        exact (show Tryd.prog.wantsStandIn t = false by simpa using List.all_eq_true.1 hall t hm)⟩)
    (by kernel_rfl)
#print axioms proved
end Go.Proofs.YtjhcfmcdllfmpaaDoor.fnStates
namespace Go.Proofs.YtjhcfmcdllfmpaaDoor
/-- The card, under a short name, for the claim. -/
theorem fnStates_holds : Rows.FnStatesCardSaid := fnStates.proved
end Go.Proofs.YtjhcfmcdllfmpaaDoor

import Derived.Test.YtmooampfjclmiaaDoorCards
import Derived.Test.YtmooampfjclmiaaDoorTie
import Derived.LaidMore
import Derived.Lay
import Derived.SevenTiedAt
import Derived.Stop.Joined
import Derived.Test.YtmooampfjclmiaaDoorWlFnExactEventsInA
import Derived.Test.YtmooampfjclmiaaDoorPpEvents
import Derived.Test.YtmooampfjclmiaaDoorTlOpen
import Derived.WalkKit
import Derived.ProofKit
import Derived.OpenShut
import Derived.ShutString
import Derived.ChangeOld
import Derived.Below
import Derived.SizedLaws
set_option linter.unusedSimpArgs false
set_option linter.unusedVariables false
set_option linter.unusedVariables false
set_option linter.unusedSimpArgs false
namespace Go.TL
open Go
def eTellings (x : TellingsT) : List Leaf := [.sl (x.Branches.map eBranch)]
@[go_sem] theorem eTellings_ (x : TellingsT) : eTellings x = [.sl (x.Branches.map eBranch)] := rfl
@[go_sem] theorem fold_eTellings_set (l : List TellingsT) (i : Nat) (v0 : (List BranchT)) : (l.map eTellings).set i [.sl (v0.map eBranch)] = (l.set i (⟨v0⟩ : TellingsT)).map eTellings := by rw [List.map_set]; rfl
@[go_sem] theorem fold_eTellings_app (l : List TellingsT) (v0 : (List BranchT)) : l.map eTellings ++ [[.sl (v0.map eBranch)]] = (l ++ [(⟨v0⟩ : TellingsT)]).map eTellings := by rw [List.map_append]; rfl
theorem fold_eTellings_rep (n : Nat) : List.replicate n [.sl []] = (List.replicate n (⟨[]⟩ : TellingsT)).map eTellings := by rw [List.map_replicate]; rfl
end Go.TL
namespace Go.Proofs.YtmooampfjclmiaaDoor.fnExactEventsIn
open Go.ChangeShapes Go.WideShapes Go.ChangeAt Go.RowKit Go.TL Go.TL.YtmooampfjclmiaaDoor
set_option maxRecDepth 100000
theorem own : ownKnob Tryd.prog.godebug = none := by kernel_rfl
theorem op3 {n : Nat} {ls : List Leaf} (h : Shp Tryd.prog (n + 1) 3 ls) : ∃ x : Int, ls = eI x ∧ ok_I x := by
  obtain ⟨x, h1, h2⟩ := shp_int Tryd.underlying3 h
  exact ⟨x, h1, bounds_i64 h2⟩
theorem op9 {n : Nat} {ls : List Leaf} (h : Shp Tryd.prog (n + 1) 9 ls) : ∃ x : ByteArray, ls = eS x ∧ ok_S x := by
  obtain ⟨x, h1, h2⟩ := shp_str Tryd.underlying9 h
  exact ⟨x, h1, by unfold maxLen at h2; exact h2⟩
set_option maxRecDepth 100000 in
theorem op59 {n : Nat} {ls : List Leaf} (h : Shp Tryd.prog (n + 2) 59 ls) : ∃ x : EventT, ls = eEvent x ∧ ok_Event x := by
  obtain ⟨a0, _, rfl, h0, a1, _, rfl, h1, a2, _, rfl, h2, a3, _, rfl, h3, rfl⟩ := shp_struct Tryd.underlying59 h
  obtain ⟨x0, rfl, g0⟩ := op3 (n := n + 0) h0
  obtain ⟨x1, rfl, g1⟩ := op3 (n := n + 0) h1
  obtain ⟨x2, rfl, g2⟩ := op3 (n := n + 0) h2
  obtain ⟨x3, rfl, g3⟩ := op9 (n := n + 0) h3
  exact ⟨⟨x0, x1, x2, x3⟩, rfl, ⟨g0, g1, g2, g3⟩⟩
set_option maxRecDepth 100000 in
theorem op45 {n : Nat} {ls : List Leaf} (h : Shp Tryd.prog (n + 3) 45 ls) : ∃ x : (List EventT), ls = [.sl (x.map eEvent)] ∧ ok_LEvent x := by
  obtain ⟨xs, h1, h2, h3⟩ := shp_slice (f := eEvent) (p := ok_Event) Tryd.underlying45 (fun r hr => op59 (n := n) hr) h
  exact ⟨xs, h1, by unfold maxLen at h2; exact ⟨h2, h3⟩⟩
set_option maxRecDepth 100000 in
theorem op47 {n : Nat} {ls : List Leaf} (h : Shp Tryd.prog (n + 4) 47 ls) : ∃ x : BranchT, ls = eBranch x ∧ ok_Branch x := by
  obtain ⟨a0, _, rfl, h0, rfl⟩ := shp_struct Tryd.underlying47 h
  obtain ⟨x0, rfl, g0⟩ := op45 (n := n + 0) h0
  exact ⟨⟨x0⟩, rfl, g0⟩
set_option maxRecDepth 100000 in
theorem op22 {n : Nat} {ls : List Leaf} (h : Shp Tryd.prog (n + 5) 22 ls) : ∃ x : (List BranchT), ls = [.sl (x.map eBranch)] ∧ ok_LBranch x := by
  obtain ⟨xs, h1, h2, h3⟩ := shp_slice (f := eBranch) (p := ok_Branch) Tryd.underlying22 (fun r hr => op47 (n := n) hr) h
  exact ⟨xs, h1, by unfold maxLen at h2; exact ⟨h2, h3⟩⟩
set_option maxRecDepth 100000 in
theorem op24 {n : Nat} {ls : List Leaf} (h : Shp Tryd.prog (n + 6) 24 ls) : ∃ x : TellingsT, ls = eTellings x ∧ ok_Tellings x := by
  obtain ⟨a0, _, rfl, h0, rfl⟩ := shp_struct Tryd.underlying24 h
  obtain ⟨x0, rfl, g0⟩ := op22 (n := n + 0) h0
  exact ⟨⟨x0⟩, rfl, g0⟩
set_option maxRecDepth 100000 in
theorem law (ls : List (List Leaf)) (h : ShpAll Tryd.prog 6 [24] ls) : ∃ nx, Go.TL.Fn Tryd.prog 3 (argsLV Tryd.prog [24] ls) [] 0 (.lf false (.sc (.bool true))) [] nx := by
  obtain ⟨a0, _, rfl, h0, rfl⟩ := h
  obtain ⟨x0, rfl, g0⟩ := op24 (n := 0) h0
  simp only [argsLV, argLV, Tryd.underlying24, lfOf, List.map_cons, List.map_nil, List.cons_append, List.nil_append, eTellings]
  exact ⟨_, w_laws_FnExactEventsIn (events_holds x0 g0)⟩
set_option maxRecDepth 100000 in
theorem lifted (os : Os) (started : os.Started) (H : Type) (enc : TypeId × Value → H) :
    ReturnsInHanded {} Tryd.checked os 3 .any (fun w args => (Rows.fnExactEventsInSpec.pre enc Tryd.prog Tryd.f3 Rows.fnExactEventsInRow.domain false w args ∧ laidMetH Tryd.prog Rows.fnExactEventsInRow.laid w) ∧ sizedMet enc Tryd.prog Tryd.f3 (OpenSpec.ofChange Rows.fnExactEventsInSpec) false w args)
      (Rows.fnExactEventsInSpec.post enc Tryd.prog Tryd.f3 false true false false) := by
  refine returnsInHanded_of_change_and (C := Tryd.checked) (X := fun w _ => laidMetH Tryd.prog Rows.fnExactEventsInRow.laid w) (fun _ _ _ hh h => h.of_heap hh) own started (by kernel_rfl) Tryd.func3
    (ChangeSpec.witness_shaped (enc := enc) (C := Tryd.checked) (os := os) (X := fun w _ => laidMetH Tryd.prog Rows.fnExactEventsInRow.laid w) false (World.laidAll Tryd.prog os Rows.fnExactEventsInRow.laid) #[.agg #[.slice none 0 0]] 8 (World.laidAll_os _ _ _)
      (World.shaped_of_ZipB (by kernel_rfl) (by kernel_rfl)) (by kernel_rfl) (by kernel_rfl) (by kernel_rfl)
      (by rw [MakeChecks.laidMetH_plain _ _ _ (by kernel_rfl)]; exact laidMet_laidAll _ (by kernel_rfl) (by kernel_rfl))) ?_
  intro W base args ds gs before hval0 hW hcnd _ hL _
  have hval : ∀ (j : Nat) t v, Tryd.f3.params[j]? = some t → args[j]? = some v → Value.okWide Tryd.prog W .any base t v := hval0
  have hW' := hW
  obtain ⟨p, q, hA0, hV, rfl, hfz, hnd⟩ := hW
  have hA : DataW.TrodAll enc Tryd.prog W 0 (fun _ => true) true Tryd.f3.params.toList args.toList ds p := hA0
  rw [Tryd.params3] at hA hval
  obtain ⟨rfl, rfl⟩ := trodVars_none hV
  obtain ⟨hlen, hc⟩ := law_calls (n := 6) (base := base) (f := 3) (by kernel_rfl) (fun j t v h1 h2 => hval j t v (by simpa using h1) h2) hA law
  refine hc.mono fun e W' ⟨he, bel⟩ => ?_
  subst he
  have hback := backAll (enc := enc) (P := Tryd.prog) (by kernel_rfl) bel (by kernel_rfl) (fun x hx => hW'.lt x (by simpa using hx)) hA
  match ds, hlen with
  | [d0], _ => exact ⟨_, rfl, _, _, _, [], _, [], hW', trodAll_mk1 (shut_bool Tryd.underlying4 _), hback, rfl, bel.frame _, fun h => by cases h⟩
theorem over : Rows.fnExactEventsInRow.holds Tryd.pinned (OpenSpec.ofChange Rows.fnExactEventsInSpec) :=
  OpenClaim.holds_of_wide 3 Tryd.f3 rfl rfl rfl rfl rfl rfl rfl ⟨rfl, rfl, rfl, rfl, rfl⟩ rfl rfl rfl rfl rfl (by kernel_rfl) Tryd.func3 (by kernel_rfl)
    (of_decide_eq_true (by kernel_rfl)) (by unfold Func.isWrapper; first | (rw [if_pos (by decide +kernel)]; kernel_rfl) | (rw [if_neg (by decide +kernel)]; exact ⟨rfl, rfl⟩))
    (fun os started H enc _ => lifted os started H enc)
theorem proved : Rows.FnExactEventsInCardSaid :=
  Claim7.holds_tied_plain_at .later [] [.data, .pinned] true (true, "d78fee1e115f086027dd6a93ef608b5d4ce813330fb9a840dc1e14b9d7d840c6") false over (fun _ h => by cases h) (by kernel_rfl) (fun _ h => by cases h) fnExactEventsIn_row_tie rfl ⟨rfl, rfl⟩ (by kernel_rfl) rfl
    (fun f fn hf hfn => by
      obtain rfl : f = 3 := Option.some.inj ((show Tryd.prog.funcNamed "loop.example/g00269/laws.FnExactEventsIn" = some 3 by kernel_rfl).symm.trans hf) |>.symm
      obtain rfl : fn = Tryd.f3 := (Option.some.inj (Tryd.func3.symm.trans hfn)).symm
      exact ⟨by kernel_rfl, fun j t ht => by
        rw [Tryd.params3] at ht
        have hm : t ∈ [24] := by have := Array.mem_of_getElem? ht; simpa using this
        have hall : ([24].all fun u => !Tryd.prog.wantsStandIn u) = true := by kernel_rfl
        exact (show Tryd.prog.wantsStandIn t = false by simpa using List.all_eq_true.1 hall t hm)⟩)
    (by kernel_rfl)
#print axioms proved
end Go.Proofs.YtmooampfjclmiaaDoor.fnExactEventsIn
namespace Go.Proofs.YtmooampfjclmiaaDoor
/-- The card, under a short name, for the claim. -/
theorem fnExactEventsIn_holds : Rows.FnExactEventsInCardSaid := fnExactEventsIn.proved
end Go.Proofs.YtmooampfjclmiaaDoor

import Derived.Test.YtmooampfjclmiaaGreatDoorCards
import Derived.Test.YtmooampfjclmiaaGreatDoorTie
import Derived.LaidMore
import Derived.Lay
import Derived.SevenTiedAt
import Derived.Stop.Joined
import Derived.Test.YtmooampfjclmiaaGreatDoorWlFnExactSameInB
import Derived.Test.YtmooampfjclmiaaGreatDoorPpRegion
import Derived.Test.YtmooampfjclmiaaGreatDoorTlOpen
import Derived.WalkKit
import Derived.ProofKit
import Derived.OpenShut
import Derived.ShutString
import Derived.ChangeOld
import Derived.Below
import Derived.SizedLaws
set_option linter.unusedSimpArgs false
set_option linter.unusedVariables false
set_option linter.unusedVariables false
set_option linter.unusedSimpArgs false
namespace Go.TL
open Go
def eTellings (x : TellingsT) : List Leaf := [.sl (x.Branches.map eBranch)]
@[go_sem] theorem eTellings_ (x : TellingsT) : eTellings x = [.sl (x.Branches.map eBranch)] := rfl
@[go_sem] theorem fold_eTellings_set (l : List TellingsT) (i : Nat) (v0 : (List BranchT)) : (l.map eTellings).set i [.sl (v0.map eBranch)] = (l.set i (⟨v0⟩ : TellingsT)).map eTellings := by rw [List.map_set]; rfl
@[go_sem] theorem fold_eTellings_app (l : List TellingsT) (v0 : (List BranchT)) : l.map eTellings ++ [[.sl (v0.map eBranch)]] = (l ++ [(⟨v0⟩ : TellingsT)]).map eTellings := by rw [List.map_append]; rfl
theorem fold_eTellings_rep (n : Nat) : List.replicate n [.sl []] = (List.replicate n (⟨[]⟩ : TellingsT)).map eTellings := by rw [List.map_replicate]; rfl
def eWord (x : WordT) : List Leaf := [.sc (.int .i64 x.Version), .sl (x.Tellings.Branches.map eBranch)]
@[go_sem] theorem eWord_ (x : WordT) : eWord x = [.sc (.int .i64 x.Version), .sl (x.Tellings.Branches.map eBranch)] := rfl
@[go_sem] theorem fold_eWord_set (l : List WordT) (i : Nat) (v0 : Int) (v1 : (List BranchT)) : (l.map eWord).set i [.sc (.int .i64 v0), .sl (v1.map eBranch)] = (l.set i (⟨v0, ⟨v1⟩⟩ : WordT)).map eWord := by rw [List.map_set]; rfl
@[go_sem] theorem fold_eWord_app (l : List WordT) (v0 : Int) (v1 : (List BranchT)) : l.map eWord ++ [[.sc (.int .i64 v0), .sl (v1.map eBranch)]] = (l ++ [(⟨v0, ⟨v1⟩⟩ : WordT)]).map eWord := by rw [List.map_append]; rfl
theorem fold_eWord_rep (n : Nat) : List.replicate n [.sc (.int .i64 0), .sl []] = (List.replicate n (⟨0, (⟨[]⟩ : TellingsT)⟩ : WordT)).map eWord := by rw [List.map_replicate]; rfl
def eWorld (x : WorldT) : List Leaf := [.sl (x.Regions.map eRegion), .sl (x.Line.map eSaid)]
@[go_sem] theorem eWorld_ (x : WorldT) : eWorld x = [.sl (x.Regions.map eRegion), .sl (x.Line.map eSaid)] := rfl
@[go_sem] theorem fold_eWorld_set (l : List WorldT) (i : Nat) (v0 : (List RegionT)) (v1 : (List SaidT)) : (l.map eWorld).set i [.sl (v0.map eRegion), .sl (v1.map eSaid)] = (l.set i (⟨v0, v1⟩ : WorldT)).map eWorld := by rw [List.map_set]; rfl
@[go_sem] theorem fold_eWorld_app (l : List WorldT) (v0 : (List RegionT)) (v1 : (List SaidT)) : l.map eWorld ++ [[.sl (v0.map eRegion), .sl (v1.map eSaid)]] = (l ++ [(⟨v0, v1⟩ : WorldT)]).map eWorld := by rw [List.map_append]; rfl
theorem fold_eWorld_rep (n : Nat) : List.replicate n [.sl [], .sl []] = (List.replicate n (⟨[], []⟩ : WorldT)).map eWorld := by rw [List.map_replicate]; rfl
end Go.TL
namespace Go.Proofs.YtmooampfjclmiaaGreatDoor.fnExactSameIn
open Go.ChangeShapes Go.WideShapes Go.ChangeAt Go.RowKit Go.TL Go.TL.YtmooampfjclmiaaGreatDoor
set_option maxRecDepth 100000
theorem own : ownKnob Tryz.prog.godebug = none := by kernel_rfl
theorem op3 {n : Nat} {ls : List Leaf} (h : Shp Tryz.prog (n + 1) 3 ls) : ∃ x : Int, ls = eI x ∧ ok_I x := by
  obtain ⟨x, h1, h2⟩ := shp_int Tryz.underlying3 h
  exact ⟨x, h1, bounds_i64 h2⟩
theorem op9 {n : Nat} {ls : List Leaf} (h : Shp Tryz.prog (n + 1) 9 ls) : ∃ x : ByteArray, ls = eS x ∧ ok_S x := by
  obtain ⟨x, h1, h2⟩ := shp_str Tryz.underlying9 h
  exact ⟨x, h1, by unfold maxLen at h2; exact h2⟩
set_option maxRecDepth 100000 in
theorem op122 {n : Nat} {ls : List Leaf} (h : Shp Tryz.prog (n + 2) 122 ls) : ∃ x : EventT, ls = eEvent x ∧ ok_Event x := by
  obtain ⟨a0, _, rfl, h0, a1, _, rfl, h1, a2, _, rfl, h2, a3, _, rfl, h3, rfl⟩ := shp_struct Tryz.underlying122 h
  obtain ⟨x0, rfl, g0⟩ := op3 (n := n + 0) h0
  obtain ⟨x1, rfl, g1⟩ := op3 (n := n + 0) h1
  obtain ⟨x2, rfl, g2⟩ := op3 (n := n + 0) h2
  obtain ⟨x3, rfl, g3⟩ := op9 (n := n + 0) h3
  exact ⟨⟨x0, x1, x2, x3⟩, rfl, ⟨g0, g1, g2, g3⟩⟩
set_option maxRecDepth 100000 in
theorem op100 {n : Nat} {ls : List Leaf} (h : Shp Tryz.prog (n + 3) 100 ls) : ∃ x : (List EventT), ls = [.sl (x.map eEvent)] ∧ ok_LEvent x := by
  obtain ⟨xs, h1, h2, h3⟩ := shp_slice (f := eEvent) (p := ok_Event) Tryz.underlying100 (fun r hr => op122 (n := n) hr) h
  exact ⟨xs, h1, by unfold maxLen at h2; exact ⟨h2, h3⟩⟩
set_option maxRecDepth 100000 in
theorem op102 {n : Nat} {ls : List Leaf} (h : Shp Tryz.prog (n + 4) 102 ls) : ∃ x : BranchT, ls = eBranch x ∧ ok_Branch x := by
  obtain ⟨a0, _, rfl, h0, rfl⟩ := shp_struct Tryz.underlying102 h
  obtain ⟨x0, rfl, g0⟩ := op100 (n := n + 0) h0
  exact ⟨⟨x0⟩, rfl, g0⟩
set_option maxRecDepth 100000 in
theorem op22 {n : Nat} {ls : List Leaf} (h : Shp Tryz.prog (n + 5) 22 ls) : ∃ x : (List BranchT), ls = [.sl (x.map eBranch)] ∧ ok_LBranch x := by
  obtain ⟨xs, h1, h2, h3⟩ := shp_slice (f := eBranch) (p := ok_Branch) Tryz.underlying22 (fun r hr => op102 (n := n) hr) h
  exact ⟨xs, h1, by unfold maxLen at h2; exact ⟨h2, h3⟩⟩
set_option maxRecDepth 100000 in
theorem op24 {n : Nat} {ls : List Leaf} (h : Shp Tryz.prog (n + 6) 24 ls) : ∃ x : TellingsT, ls = eTellings x ∧ ok_Tellings x := by
  obtain ⟨a0, _, rfl, h0, rfl⟩ := shp_struct Tryz.underlying24 h
  obtain ⟨x0, rfl, g0⟩ := op22 (n := n + 0) h0
  exact ⟨⟨x0⟩, rfl, g0⟩
set_option maxRecDepth 100000 in
theorem op26 {n : Nat} {ls : List Leaf} (h : Shp Tryz.prog (n + 7) 26 ls) : ∃ x : RegionT, ls = eRegion x ∧ ok_Region x := by
  obtain ⟨a0, _, rfl, h0, a1, _, rfl, h1, a2, _, rfl, h2, rfl⟩ := shp_struct Tryz.underlying26 h
  obtain ⟨x0, rfl, g0⟩ := op3 (n := n + 5) h0
  obtain ⟨x1, rfl, g1⟩ := op3 (n := n + 5) h1
  obtain ⟨x2, rfl, g2⟩ := op24 (n := n + 0) h2
  exact ⟨⟨x0, x1, x2⟩, rfl, ⟨g0, g1, g2⟩⟩
set_option maxRecDepth 100000 in
theorem op39 {n : Nat} {ls : List Leaf} (h : Shp Tryz.prog (n + 8) 39 ls) : ∃ x : (List RegionT), ls = [.sl (x.map eRegion)] ∧ ok_LRegion x := by
  obtain ⟨xs, h1, h2, h3⟩ := shp_slice (f := eRegion) (p := ok_Region) Tryz.underlying39 (fun r hr => op26 (n := n) hr) h
  exact ⟨xs, h1, by unfold maxLen at h2; exact ⟨h2, h3⟩⟩
set_option maxRecDepth 100000 in
theorem op93 {n : Nat} {ls : List Leaf} (h : Shp Tryz.prog (n + 7) 93 ls) : ∃ x : WordT, ls = eWord x ∧ ok_Word x := by
  obtain ⟨a0, _, rfl, h0, a1, _, rfl, h1, rfl⟩ := shp_struct Tryz.underlying93 h
  obtain ⟨x0, rfl, g0⟩ := op3 (n := n + 5) h0
  obtain ⟨x1, rfl, g1⟩ := op24 (n := n + 0) h1
  exact ⟨⟨x0, x1⟩, rfl, ⟨g0, g1⟩⟩
set_option maxRecDepth 100000 in
theorem op95 {n : Nat} {ls : List Leaf} (h : Shp Tryz.prog (n + 8) 95 ls) : ∃ x : SaidT, ls = eSaid x ∧ ok_Said x := by
  obtain ⟨a0, _, rfl, h0, a1, _, rfl, h1, rfl⟩ := shp_struct Tryz.underlying95 h
  obtain ⟨x0, rfl, g0⟩ := op3 (n := n + 6) h0
  obtain ⟨x1, rfl, g1⟩ := op93 (n := n + 0) h1
  exact ⟨⟨x0, x1⟩, rfl, ⟨g0, g1⟩⟩
set_option maxRecDepth 100000 in
theorem op40 {n : Nat} {ls : List Leaf} (h : Shp Tryz.prog (n + 9) 40 ls) : ∃ x : (List SaidT), ls = [.sl (x.map eSaid)] ∧ ok_LSaid x := by
  obtain ⟨xs, h1, h2, h3⟩ := shp_slice (f := eSaid) (p := ok_Said) Tryz.underlying40 (fun r hr => op95 (n := n) hr) h
  exact ⟨xs, h1, by unfold maxLen at h2; exact ⟨h2, h3⟩⟩
set_option maxRecDepth 100000 in
theorem op42 {n : Nat} {ls : List Leaf} (h : Shp Tryz.prog (n + 10) 42 ls) : ∃ x : WorldT, ls = eWorld x ∧ ok_World x := by
  obtain ⟨a0, _, rfl, h0, a1, _, rfl, h1, rfl⟩ := shp_struct Tryz.underlying42 h
  obtain ⟨x0, rfl, g0⟩ := op39 (n := n + 1) h0
  obtain ⟨x1, rfl, g1⟩ := op40 (n := n + 0) h1
  exact ⟨⟨x0, x1⟩, rfl, ⟨g0, g1⟩⟩
set_option maxRecDepth 100000 in
theorem law (ls : List (List Leaf)) (h : ShpAll Tryz.prog 10 [42] ls) : ∃ nx, Go.TL.Fn Tryz.prog 6 (argsLV Tryz.prog [42] ls) [] 0 (.lf false (.sc (.bool true))) [] nx := by
  obtain ⟨a0, _, rfl, h0, rfl⟩ := h
  obtain ⟨x0, rfl, g0⟩ := op42 (n := 0) h0
  simp only [argsLV, argLV, Tryz.underlying42, lfOf, List.map_cons, List.map_nil, List.cons_append, List.nil_append, eWorld]
  exact ⟨_, w_laws_FnExactSameIn (same_holds x0 g0)⟩
set_option maxRecDepth 100000 in
theorem lifted (os : Os) (started : os.Started) (H : Type) (enc : TypeId × Value → H) :
    ReturnsInHanded {} Tryz.checked os 6 .any (fun w args => (Rows.fnExactSameInSpec.pre enc Tryz.prog Tryz.f6 Rows.fnExactSameInRow.domain false w args ∧ laidMetH Tryz.prog Rows.fnExactSameInRow.laid w) ∧ sizedMet enc Tryz.prog Tryz.f6 (OpenSpec.ofChange Rows.fnExactSameInSpec) false w args)
      (Rows.fnExactSameInSpec.post enc Tryz.prog Tryz.f6 false true false false) := by
  refine returnsInHanded_of_change_and (C := Tryz.checked) (X := fun w _ => laidMetH Tryz.prog Rows.fnExactSameInRow.laid w) (fun _ _ _ hh h => h.of_heap hh) own started (by kernel_rfl) Tryz.func6
    (ChangeSpec.witness_shaped (enc := enc) (C := Tryz.checked) (os := os) (X := fun w _ => laidMetH Tryz.prog Rows.fnExactSameInRow.laid w) false (World.laidAll Tryz.prog os Rows.fnExactSameInRow.laid) #[.agg #[.slice none 0 0, .slice none 0 0]] 8 (World.laidAll_os _ _ _)
      (World.shaped_of_ZipB (by kernel_rfl) (by kernel_rfl)) (by kernel_rfl) (by kernel_rfl) (by kernel_rfl)
      (by rw [MakeChecks.laidMetH_plain _ _ _ (by kernel_rfl)]; exact laidMet_laidAll _ (by kernel_rfl) (by kernel_rfl))) ?_
  intro W base args ds gs before hval0 hW hcnd _ hL _
  have hval : ∀ (j : Nat) t v, Tryz.f6.params[j]? = some t → args[j]? = some v → Value.okWide Tryz.prog W .any base t v := hval0
  have hW' := hW
  obtain ⟨p, q, hA0, hV, rfl, hfz, hnd⟩ := hW
  have hA : DataW.TrodAll enc Tryz.prog W 0 (fun _ => true) true Tryz.f6.params.toList args.toList ds p := hA0
  rw [Tryz.params6] at hA hval
  obtain ⟨rfl, rfl⟩ := trodVars_none hV
  obtain ⟨hlen, hc⟩ := law_calls (n := 10) (base := base) (f := 6) (by kernel_rfl) (fun j t v h1 h2 => hval j t v (by simpa using h1) h2) hA law
  refine hc.mono fun e W' ⟨he, bel⟩ => ?_
  subst he
  have hback := backAll (enc := enc) (P := Tryz.prog) (by kernel_rfl) bel (by kernel_rfl) (fun x hx => hW'.lt x (by simpa using hx)) hA
  match ds, hlen with
  | [d0], _ => exact ⟨_, rfl, _, _, _, [], _, [], hW', trodAll_mk1 (shut_bool Tryz.underlying4 _), hback, rfl, bel.frame _, fun h => by cases h⟩
theorem over : Rows.fnExactSameInRow.holds Tryz.pinned (OpenSpec.ofChange Rows.fnExactSameInSpec) :=
  OpenClaim.holds_of_wide 6 Tryz.f6 rfl rfl rfl rfl rfl rfl rfl ⟨rfl, rfl, rfl, rfl, rfl⟩ rfl rfl rfl rfl rfl (by kernel_rfl) Tryz.func6 (by kernel_rfl)
    (of_decide_eq_true (by kernel_rfl)) (by unfold Func.isWrapper; first | (rw [if_pos (by decide +kernel)]; kernel_rfl) | (rw [if_neg (by decide +kernel)]; exact ⟨rfl, rfl⟩))
    (fun os started H enc _ => lifted os started H enc)
theorem proved : Rows.FnExactSameInCardSaid :=
  Claim7.holds_tied_plain_at .later [] [.data, .pinned] true (true, "8d0b9c85cb3ef7765de28853267f15e41abd7e46f4d09e70b653db4556b6a773") false over (fun _ h => by cases h) (by kernel_rfl) (fun _ h => by cases h) fnExactSameIn_row_tie rfl ⟨rfl, rfl⟩ (by kernel_rfl) rfl
    (fun f fn hf hfn => by
      obtain rfl : f = 6 := Option.some.inj ((show Tryz.prog.funcNamed "loop.example/g00269/laws.FnExactSameIn" = some 6 by kernel_rfl).symm.trans hf) |>.symm
      obtain rfl : fn = Tryz.f6 := (Option.some.inj (Tryz.func6.symm.trans hfn)).symm
      exact ⟨by kernel_rfl, fun j t ht => by
        rw [Tryz.params6] at ht
        have hm : t ∈ [42] := by have := Array.mem_of_getElem? ht; simpa using this
        have hall : ([42].all fun u => !Tryz.prog.wantsStandIn u) = true := by kernel_rfl
        exact (show Tryz.prog.wantsStandIn t = false by simpa using List.all_eq_true.1 hall t hm)⟩)
    (by kernel_rfl)
#print axioms proved
end Go.Proofs.YtmooampfjclmiaaGreatDoor.fnExactSameIn
namespace Go.Proofs.YtmooampfjclmiaaGreatDoor
/-- The card, under a short name, for the claim. -/
theorem fnExactSameIn_holds : Rows.FnExactSameInCardSaid := fnExactSameIn.proved
end Go.Proofs.YtmooampfjclmiaaGreatDoor

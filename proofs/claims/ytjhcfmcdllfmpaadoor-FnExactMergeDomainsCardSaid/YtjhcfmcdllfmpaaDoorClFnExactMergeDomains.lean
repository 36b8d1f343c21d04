import Derived.Test.YtjhcfmcdllfmpaaDoorCards
import Derived.Test.YtjhcfmcdllfmpaaDoorTie
import Derived.LaidMore
import Derived.Lay
import Derived.SevenTiedAt
import Derived.Stop.Joined
import Derived.Test.YtjhcfmcdllfmpaaDoorWlFnExactMergeDomainsA
import Derived.Test.YtjhcfmcdllfmpaaDoorPpMerge
import Derived.Test.YtjhcfmcdllfmpaaDoorTlOpen
import Derived.WalkKit
import Derived.ProofKit
import Derived.OpenShut
import Derived.ShutString
import Derived.ChangeOld
import Derived.Below
import Derived.SizedLaws
set_option linter.unusedSimpArgs false
set_option linter.unusedVariables false
set_option linter.unusedVariables false
set_option linter.unusedSimpArgs false
namespace Go.TL
open Go
def eLDomain (x : (List DomainT)) : List Leaf := [.sl (x.map eDomain)]
@[go_sem] theorem eLDomain_ (x : (List DomainT)) : eLDomain x = [.sl (x.map eDomain)] := rfl
@[go_sem] theorem fold_eLDomain_set (l : List (List DomainT)) (i : Nat) (v : (List DomainT)) : (l.map eLDomain).set i [.sl (v.map eDomain)] = (l.set i v).map eLDomain := by rw [List.map_set]; rfl
@[go_sem] theorem fold_eLDomain_app (l : List (List DomainT)) (v : (List DomainT)) : l.map eLDomain ++ [[.sl (v.map eDomain)]] = (l ++ [v]).map eLDomain := by rw [List.map_append]; rfl
theorem fold_eLDomain_rep (n : Nat) : List.replicate n [.sl []] = (List.replicate n []).map eLDomain := by rw [List.map_replicate]; rfl
end Go.TL
namespace Go.Proofs.YtjhcfmcdllfmpaaDoor.fnExactMergeDomains
open Go.ChangeShapes Go.WideShapes Go.ChangeAt Go.RowKit Go.TL Go.TL.YtjhcfmcdllfmpaaDoor
set_option maxRecDepth 100000
theorem own : ownKnob Tryd.prog.godebug = none := by kernel_rfl
theorem op9 {n : Nat} {ls : List Leaf} (h : Shp Tryd.prog (n + 1) 9 ls) : ∃ x : ByteArray, ls = eS x ∧ ok_S x := by
  obtain ⟨x, h1, h2⟩ := shp_str Tryd.underlying9 h
  exact ⟨x, h1, by unfold maxLen at h2; exact h2⟩
theorem op3 {n : Nat} {ls : List Leaf} (h : Shp Tryd.prog (n + 1) 3 ls) : ∃ x : Int, ls = eI x ∧ ok_I x := by
  obtain ⟨x, h1, h2⟩ := shp_int Tryd.underlying3 h
  exact ⟨x, h1, bounds_i64 h2⟩
set_option maxRecDepth 100000 in
theorem op113 {n : Nat} {ls : List Leaf} (h : Shp Tryd.prog (n + 2) 113 ls) : ∃ x : DomainT, ls = eDomain x ∧ ok_Domain x := by
  obtain ⟨a0, _, rfl, h0, a1, _, rfl, h1, a2, _, rfl, h2, rfl⟩ := shp_struct Tryd.underlying113 h
  obtain ⟨x0, rfl, g0⟩ := op9 (n := n + 0) h0
  obtain ⟨x1, rfl, g1⟩ := op3 (n := n + 0) h1
  obtain ⟨x2, rfl, g2⟩ := op9 (n := n + 0) h2
  exact ⟨⟨x0, x1, x2⟩, rfl, ⟨g0, g1, g2⟩⟩
set_option maxRecDepth 100000 in
theorem op59 {n : Nat} {ls : List Leaf} (h : Shp Tryd.prog (n + 3) 59 ls) : ∃ x : (List DomainT), ls = [.sl (x.map eDomain)] ∧ ok_LDomain x := by
  obtain ⟨xs, h1, h2, h3⟩ := shp_slice (f := eDomain) (p := ok_Domain) Tryd.underlying59 (fun r hr => op113 (n := n) hr) h
  exact ⟨xs, h1, by unfold maxLen at h2; exact ⟨h2, h3⟩⟩
set_option maxRecDepth 100000 in
theorem law (ls : List (List Leaf)) (h : ShpAll Tryd.prog 3 [59, 59] ls) : ∃ nx, Go.TL.Fn Tryd.prog 8 (argsLV Tryd.prog [59, 59] ls) [] 0 (.lf false (.sc (.bool true))) [] nx := by
  obtain ⟨a0, _, rfl, h0, a1, _, rfl, h1, rfl⟩ := h
  obtain ⟨x0, rfl, g0⟩ := op59 (n := 0) h0
  obtain ⟨x1, rfl, g1⟩ := op59 (n := 0) h1
  simp only [argsLV, argLV, Tryd.underlying59, lfOf, List.map_cons, List.map_nil, List.cons_append, List.nil_append, eLDomain]
  exact ⟨_, w_laws_FnExactMergeDomains (merge_holds x0 x1 g0 g1)⟩
set_option maxRecDepth 100000 in
theorem lifted (os : Os) (started : os.Started) (H : Type) (enc : TypeId × Value → H) :
    ReturnsInHanded {} Tryd.checked os 8 .any (fun w args => (Rows.fnExactMergeDomainsSpec.pre enc Tryd.prog Tryd.f8 Rows.fnExactMergeDomainsRow.domain false w args ∧ laidMetH Tryd.prog Rows.fnExactMergeDomainsRow.laid w) ∧ sizedMet enc Tryd.prog Tryd.f8 (OpenSpec.ofChange Rows.fnExactMergeDomainsSpec) false w args)
      (Rows.fnExactMergeDomainsSpec.post enc Tryd.prog Tryd.f8 false true false false) := by
  refine returnsInHanded_of_change_and (C := Tryd.checked) (X := fun w _ => laidMetH Tryd.prog Rows.fnExactMergeDomainsRow.laid w) (fun _ _ _ hh h => h.of_heap hh) own started (by kernel_rfl) Tryd.func8
    (ChangeSpec.witness_shaped (enc := enc) (C := Tryd.checked) (os := os) (X := fun w _ => laidMetH Tryd.prog Rows.fnExactMergeDomainsRow.laid w) false (World.laidAll Tryd.prog os Rows.fnExactMergeDomainsRow.laid) #[.slice none 0 0, .slice none 0 0] 8 (World.laidAll_os _ _ _)
      (World.shaped_of_ZipB (by kernel_rfl) (by kernel_rfl)) (by kernel_rfl) (by kernel_rfl) (by kernel_rfl)
      (by rw [MakeChecks.laidMetH_plain _ _ _ (by kernel_rfl)]; exact laidMet_laidAll _ (by kernel_rfl) (by kernel_rfl))) ?_
  intro W base args ds gs before hval0 hW hcnd _ hL _
  have hval : ∀ (j : Nat) t v, Tryd.f8.params[j]? = some t → args[j]? = some v → Value.okWide Tryd.prog W .any base t v := hval0
  have hW' := hW
  obtain ⟨p, q, hA0, hV, rfl, hfz, hnd⟩ := hW
  have hA : DataW.TrodAll enc Tryd.prog W 0 (fun _ => true) true Tryd.f8.params.toList args.toList ds p := hA0
  rw [Tryd.params8] at hA hval
  obtain ⟨rfl, rfl⟩ := trodVars_none hV
  obtain ⟨hlen, hc⟩ := law_calls (n := 3) (base := base) (f := 8) (by kernel_rfl) (fun j t v h1 h2 => hval j t v (by simpa using h1) h2) hA law
  refine hc.mono fun e W' ⟨he, bel⟩ => ?_
  subst he
  have hback := backAll (enc := enc) (P := Tryd.prog) (by kernel_rfl) bel (by kernel_rfl) (fun x hx => hW'.lt x (by simpa using hx)) hA
  match ds, hlen with
  | [d0, d1], _ => exact ⟨_, rfl, _, _, _, [], _, [], hW', trodAll_mk1 (shut_bool Tryd.underlying4 _), hback, rfl, bel.frame _, fun h => by cases h⟩
theorem over : Rows.fnExactMergeDomainsRow.holds Tryd.pinned (OpenSpec.ofChange Rows.fnExactMergeDomainsSpec) :=
  OpenClaim.holds_of_wide 8 Tryd.f8 rfl rfl rfl rfl rfl rfl rfl ⟨rfl, rfl, rfl, rfl, rfl⟩ rfl rfl rfl rfl rfl (by kernel_rfl) Tryd.func8 (by kernel_rfl)
    (of_decide_eq_true (by kernel_rfl)) (by unfold Func.isWrapper; first | (rw [if_pos (by decide +kernel)]; kernel_rfl) | (rw [if_neg (by decide +kernel)]; exact ⟨rfl, rfl⟩))
    (fun os started H enc _ => lifted os started H enc)
theorem proved : Rows.FnExactMergeDomainsCardSaid :=
  Claim7.holds_tied_plain_at .later [] [.data, .pinned] true (true, "1a02d525c2173f2868820232be41ce8cb5649ae31f6d418f0bc0682686b91d5e") false over (fun _ h => by cases h) (by kernel_rfl) (fun _ h => by cases h) fnExactMergeDomains_row_tie rfl ⟨rfl, rfl⟩ (by kernel_rfl) rfl
    (fun f fn hf hfn => by
      obtain rfl : f = 8 := Option.some.inj ((show Tryd.prog.funcNamed "loop.example/g00269/laws.FnExactMergeDomains" = some 8 by kernel_rfl).symm.trans hf) |>.symm
      obtain rfl : fn = Tryd.f8 := (Option.some.inj (Tryd.func8.symm.trans hfn)).symm
      exact ⟨by kernel_rfl, fun j t ht => by
        rw [Tryd.params8] at ht
        have hm : t ∈ [59] := by have := Array.mem_of_getElem? ht; simpa using this
        have hall : ([59].all fun u => !Tryd.prog.wantsStandIn u) = true := by kernel_rfl
        exact (show Tryd.prog.wantsStandIn t = false by simpa using List.all_eq_true.1 hall t hm)⟩)
    (by kernel_rfl)
#print axioms proved
end Go.Proofs.YtjhcfmcdllfmpaaDoor.fnExactMergeDomains
namespace Go.Proofs.YtjhcfmcdllfmpaaDoor
/-- The card, under a short name, for the claim. -/
theorem fnExactMergeDomains_holds : Rows.FnExactMergeDomainsCardSaid := fnExactMergeDomains.proved
end Go.Proofs.YtjhcfmcdllfmpaaDoor

import Derived.Test.YtjkeoippmlmfbaaGreatDoorTlSrLr5zD
import Derived.Test.YtjkeoippmlmfbaaGreatDoorTlSortD
import Derived.Test.YtjkeoippmlmfbaaGreatDoorG30PlR5C
import Derived.Test.YtjkeoippmlmfbaaGreatDoorG22EnR1
set_option linter.unusedSimpArgs false
set_option linter.unusedVariables false
namespace Go.Proofs
theorem Tryz.sortBAgg : ∀ w,(Go.isAgg (Tryz.sortB_ren.t 24)).run Tryz.prog w = .ok true w := Tryz.isAgg93
theorem Tryz.sortBSize : ∀ w,(Go.sizeOf (Tryz.sortB_ren.t 24)).run Tryz.prog w = .ok 1 w := Tryz.sizeOf93
end Go.Proofs
namespace Go.TL
open Go Go.Sort Go.Proofs
theorem branch_swoB : SWO (ltOf fun a b : BranchT => (cmpL a.Events b.Events).1) where
  irrefl a := branch_swo.irrefl a.Events
  trans a b c := branch_swo.trans a.Events b.Events c.Events
  ntrans a b c := branch_swo.ntrans a.Events b.Events c.Events
theorem closureB {x y : BranchT} (hx : x.Events.length ≤ 1000) (hy : y.Events.length ≤ 1000) : impl_added_c3 x y = some (cmpL x.Events y.Events).1 := by
  unfold impl_added_c3
  rw [impl_branchOrder_eq _ _ (by omega) (by omega)]
  rfl
theorem brL_ltOf (a b : BranchT) : ltOf (fun a b : BranchT => (cmpL a.Events b.Events).1) a b = brL a b := cmpL_lex a.Events b.Events
theorem sortB_one {l r : List BranchT} (ha : aptO brL l = true) (hp : r.Perm l) (hs : r.Pairwise fun a b => ltOf (fun a b : BranchT => (cmpL a.Events b.Events).1) b a = false) : r = sortO brL l := by
  refine asc_one brL_irr brL_trans (hp.trans (sortO_perm brL l).symm) ?_ (sortO_asc brL_trans ha)
  have hap : r.Pairwise fun x y => brL x y = true ∨ brL y x = true := (hp.pairwise_iff fun h => h.symm).2 (aptO_iff.1 ha)
  refine (hap.and hs).imp fun {a b} ⟨h1,h2⟩ => ?_
  rw [brL_ltOf] at h2
  exact h1.resolve_right (by rw [h2]; exact Bool.false_ne_true)
theorem eEvent_inj {a b : EventT} (h : eEvent a = eEvent b) : a = b := by
  cases a; cases b
  simp [eEvent,eI,eS] at h
  simp [h]
theorem map_inj' {α γ : Type} {f : α → γ} (hf : ∀ a b,f a = f b → a = b) : ∀ {l r : List α},l.map f = r.map f → l = r
  | [],[],_ => rfl
  | [],_ :: _,h => by simp at h
  | _ :: _,[],h => by simp at h
  | a :: l,b :: r,h => by
    simp only [List.map_cons,List.cons.injEq] at h
    rw [hf a b h.1,map_inj' hf h.2]
theorem row_inj {x y : BranchT} (e : (Leaf.sl (x.Events.map eEvent)) = Leaf.sl (y.Events.map eEvent)) : x = y := by
  have h := map_inj' (fun a b => eEvent_inj) (Leaf.sl.inj e)
  cases x; cases y
  simp only at h
  rw [h]
end Go.TL

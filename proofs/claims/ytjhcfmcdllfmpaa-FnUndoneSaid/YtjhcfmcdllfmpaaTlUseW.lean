import Derived.Test.YtjhcfmcdllfmpaaTlBelow
set_option linter.unusedSimpArgs false
set_option linter.unusedVariables false
namespace Go.TL
open Go Go.RowKit

def loc0 : Nat → Loc := fun _ => ⟨0, 0, 0⟩

theorem fn_use {P : Program} {f : FuncId} {args : List LV} {res : LV} {nx : Nat} (h : Fn P f args [] 0 res [] nx) {w : World} (F : CellSet) (hF : ∀ b k, F b k → b < w.heap.size) {vs : Array Value} (hn : vs.size = args.length)
    (hv : ∀ j (hj : j < args.length), ∃ v, vs[j]? = some v ∧ Cv w (ctx0 F loc0 0) (args[j]) v) :
    Calls P f vs w fun e w' => ∃ v c', e = .returned v ∧ c'.F = F ∧ Below w.heap.size w w' ∧ (∀ b k, c'.G b k → w.heap.size ≤ b ∧ b < w'.heap.size) ∧ Cv w' c' res v := by
  have hs : Sit w (frm (rng loc0 (hp []))) (ctx0 F loc0 0) (hp []) w := by
    have hno : ∀ id o, (hp [] : Heap) id ≠ some o := fun id o h => by simp [hp, look] at h
    exact ⟨.refl _ _, fun id o h => (hno _ _ h).elim, fun i j oi oj h => (hno _ _ h).elim, fun id o h => (hno _ _ h).elim, fun b k hb => ⟨hF b k hb, fun ⟨id, o, ho, _⟩ => hno _ _ ho⟩, fun b k h => h.elim, fun b k v h => (by cases h), fun id o h => (hno _ _ h).elim⟩
  refine (h.2 w F loc0 vs hs hn hv).mono fun e w' ⟨v, c', he, hle, _, hsit, hcv⟩ => ⟨v, c', he, hle.F, ?_, hsit.new, hcv⟩
  refine Keep.below (hsit.keep.mono fun b k _ hb => ?_)
  obtain ⟨id, o, ho, _⟩ := hb
  simp [hp, look] at ho

theorem fn_useS {P : Program} {f : FuncId} {args : List LV} {u : Value} {nx : Nat} (h : Fn P f args [] 0 (.lf false (.sc u)) [] nx) {w : World} (F : CellSet) (hF : ∀ b k, F b k → b < w.heap.size) {vs : Array Value} (hn : vs.size = args.length)
    (hv : ∀ j (hj : j < args.length), ∃ v, vs[j]? = some v ∧ Cv w (ctx0 F loc0 0) (args[j]) v) :
    Calls P f vs w fun e w' => e = .returned u ∧ Below w.heap.size w w' :=
  (fn_use h F hF hn hv).mono fun e w' ⟨v, c', he, _, hb, _, hc⟩ => ⟨by rw [he, cv_sc hc], hb⟩
end Go.TL
namespace Go.TL
open Go Go.RowKit
theorem cv_lf_inv {w : World} {c : Ctx} {t : Bool} {l : Leaf} {v : Value} (h : Cv w c (.lf t l) v) : RepL w (c.fs t) v l := by cases h with | lf h => exact h
theorem cv_ag_inv {w : World} {c : Ctx} {ls : List LV} {v : Value} (h : Cv w c (.ag ls) v) : ∃ (vs : Array Value) (cs : Nat → Value), v = .agg vs ∧ vs.size = ls.length ∧ (∀ j, j < ls.length → vs[j]? = some (cs j)) ∧ ∀ j (hj : j < ls.length), Cv w c (ls[j]) (cs j) := by
  cases h with | ag cs hn hv h => exact ⟨_, cs, rfl, hn, hv, h⟩
theorem cv_tu_inv {w : World} {c : Ctx} {ls : List LV} {v : Value} (h : Cv w c (.tu ls) v) : ∃ (vs : Array Value) (cs : Nat → Value), v = .tuple vs ∧ vs.size = ls.length ∧ (∀ j, j < ls.length → vs[j]? = some (cs j)) ∧ ∀ j (hj : j < ls.length), Cv w c (ls[j]) (cs j) := by
  cases h with | tu cs hn hv h => exact ⟨_, cs, rfl, hn, hv, h⟩
theorem arr2 {vs : Array Value} {a b : Value} (h : vs.size = 2) (h0 : vs[0]? = some a) (h1 : vs[1]? = some b) : vs = #[a, b] := by
  refine Array.ext (by simpa using h) fun i hi hi2 => ?_
  have : i = 0 ∨ i = 1 := by omega
  rcases this with rfl | rfl
  · rw [Array.getElem?_eq_getElem hi] at h0; cases h0; rfl
  · rw [Array.getElem?_eq_getElem hi] at h1; cases h1; rfl
theorem arr3 {vs : Array Value} {a b d : Value} (h : vs.size = 3) (h0 : vs[0]? = some a) (h1 : vs[1]? = some b) (h2 : vs[2]? = some d) : vs = #[a, b, d] := by
  refine Array.ext (by simpa using h) fun i hi hi2 => ?_
  have : i = 0 ∨ i = 1 ∨ i = 2 := by omega
  rcases this with rfl | rfl | rfl
  · rw [Array.getElem?_eq_getElem hi] at h0; cases h0; rfl
  · rw [Array.getElem?_eq_getElem hi] at h1; cases h1; rfl
  · rw [Array.getElem?_eq_getElem hi] at h2; cases h2; rfl
theorem arr4 {vs : Array Value} {a b d e : Value} (h : vs.size = 4) (h0 : vs[0]? = some a) (h1 : vs[1]? = some b) (h2 : vs[2]? = some d) (h3 : vs[3]? = some e) : vs = #[a, b, d, e] := by
  refine Array.ext (by simpa using h) fun i hi hi2 => ?_
  have : i = 0 ∨ i = 1 ∨ i = 2 ∨ i = 3 := by omega
  rcases this with rfl | rfl | rfl | rfl
  · rw [Array.getElem?_eq_getElem hi] at h0; cases h0; rfl
  · rw [Array.getElem?_eq_getElem hi] at h1; cases h1; rfl
  · rw [Array.getElem?_eq_getElem hi] at h2; cases h2; rfl
  · rw [Array.getElem?_eq_getElem hi] at h3; cases h3; rfl
theorem arr1 {vs : Array Value} {a : Value} (h : vs.size = 1) (h0 : vs[0]? = some a) : vs = #[a] := by
  refine Array.ext (by simpa using h) fun i hi hi2 => ?_
  have : i = 0 := by omega
  subst this
  rw [Array.getElem?_eq_getElem hi] at h0; cases h0; rfl
theorem cv_ag3 {w : World} {c : Ctx} {a b d : Value} (ha : scal a = true) (hb : scal b = true) (hd : scal d = true) : Cv w c (.ag [.lf false (.sc a), .lf false (.sc b), .lf false (.sc d)]) (.agg #[a, b, d]) := by
  refine .ag (fun j => [a, b, d].getD j a) rfl (fun j hj => ?_) (fun j hj => ?_)
  · have : j = 0 ∨ j = 1 ∨ j = 2 := by simp at hj; omega
    rcases this with rfl | rfl | rfl <;> rfl
  · have : j = 0 ∨ j = 1 ∨ j = 2 := by simp at hj; omega
    rcases this with rfl | rfl | rfl
    · exact .lf (.sc ha)
    · exact .lf (.sc hb)
    · exact .lf (.sc hd)
theorem cv_show {w : World} {F : CellSet} {S : CellSet} {l : Leaf} {v : Value} (h : RepL w S v l) (hS : ∀ b k, S b k → F b k) : Cv w (ctx0 F loc0 0) (.lf true l) v :=
  .lf (h.mono (fun b k x => .inr ⟨rfl, hS b k x⟩) fun _ _ _ => rfl)
end Go.TL

import Derived.Test.YtjhcfmcdllfmpaaDoorTlBelow
set_option linter.unusedSimpArgs false
set_option linter.unusedVariables false
namespace Go.TL
open Go Go.RowKit

theorem fn_int1 {P : Program} {f : FuncId} (hent : Ent P f) {a : Int} {r : ByteArray} (h : ∀ w, Calls P f #[.int .i64 a] w fun e w' => e = .returned (.string r) ∧ Below w.heap.size w w') :
    Fn P f [.lf false (.sc (.int .i64 a))] [] 0 (.lf false (.sc (.string r))) [] 0 := by
  refine ⟨hent, fun w F loc vs hsit hvs hv => ?_⟩
  obtain ⟨u0, e0, c0⟩ := hv 0 (by simp)
  have hvs' : vs = #[.int .i64 a] := by
    simp only [List.length_cons, List.length_nil] at hvs
    refine Array.ext (by simpa using hvs) fun i h1 h2 => ?_
    have hi : i = 0 := by omega
    subst hi
    rw [Array.getElem?_eq_getElem h1] at e0; cases e0; exact cv_sc c0
  rw [hvs']
  refine (h w).mono fun e w' ⟨he, hb⟩ => ?_
  exact ⟨_, _, he, .refl _, rfl, (sit_keep hsit (keep_below hb)).1, .lf (.sc rfl)⟩
end Go.TL

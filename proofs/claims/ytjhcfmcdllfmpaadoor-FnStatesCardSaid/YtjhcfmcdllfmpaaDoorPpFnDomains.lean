import Derived.Test.YtjhcfmcdllfmpaaDoorPpMerge
import Derived.Test.YtjhcfmcdllfmpaaDoorG33PpMark
import Derived.Test.YtjhcfmcdllfmpaaDoorG21PlR3M
set_option linter.unusedSimpArgs false
set_option linter.unusedVariables false
set_option linter.unusedVariables false
set_option linter.unusedSimpArgs false
namespace Go.TL

theorem of_m {β : Type} {f : ByteArray × l1CurT → Option β} {Q : β → Prop} {c : l1CurT} {K : Int} {l : List ByteArray} (h : cur c K) (hK : K ≤ 4611686018427387000) (hn : 1 ≤ l.length ∧ l.length ≤ 1000)
    (hf : ∀ x c', x ∈ l → cur c' (K + 2) → okO Q (f (x, c'))) : okO Q ((spec_l1Cur_of_ow c l).bind f) := by
  unfold spec_l1Cur_of_ow
  refine okO.bind_bind (pick_b h hK (by omega) fun x c' h1 h2 h3 h4 => ?_)
  have := h3 (by omega)
  exact okO.bind_guard ⟨h1, by simpa using this⟩ (okO.bind_some (hf _ _ (nth_mem (by omega)) h4))
theorem mem_small {l : List ByteArray} (h : l.all (fun x => decide (x.size ≤ 100)) = true) {x : ByteArray} (hx : x ∈ l) : x.size ≤ 100 := by
  rw [List.all_eq_true] at h
  simpa using h x hx
theorem small_ok {x : ByteArray} (h : x.size ≤ 100) : ok_S x := by unfold ok_S; omega
end Go.TL

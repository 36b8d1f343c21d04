import Derived.Test.YtjhcfmcdllfmpaaDoorTlStep
set_option linter.unusedSimpArgs false
set_option linter.unusedVariables false
namespace Go.TL
open Go

theorem cv_un {w : World} {c : Ctx} {a b d e x y z : LV} {v : Value} (h : Cv w c (.tu [.ag [a, b, d, e, x, y], z]) v) : Cv w c (.tu [.ag [a, b, d, e, .un, .un], z]) v := by
  cases h with
  | tu cs hn hv h =>
    refine .tu cs hn hv fun j hj => ?_
    have hj' : j = 0 ∨ j = 1 := by simp only [List.length_cons, List.length_nil] at hj; omega
    rcases hj' with rfl | rfl
    · have h0 := h 0 (by simp)
      simp only [List.getElem_cons_zero] at h0 ⊢
      generalize cs 0 = u at h0
      cases h0 with
      | ag cs2 hn2 hv2 h2 =>
        refine .ag cs2 hn2 hv2 fun k hk => ?_
        have hk' : k = 0 ∨ k = 1 ∨ k = 2 ∨ k = 3 ∨ k = 4 ∨ k = 5 := by simp only [List.length_cons, List.length_nil] at hk; omega
        rcases hk' with rfl | rfl | rfl | rfl | rfl | rfl
        · exact h2 0 (by simp)
        · exact h2 1 (by simp)
        · exact h2 2 (by simp)
        · exact h2 3 (by simp)
        · exact .un _
        · exact .un _
    · exact h 1 (by simp)
theorem fn_un {P : Program} {f : FuncId} {args : List LV} {H0 H1 : HL} {m n : Nat} {a b d e x y z : LV} (h : Fn P f args H0 m (.tu [.ag [a, b, d, e, x, y], z]) H1 n) : Fn P f args H0 m (.tu [.ag [a, b, d, e, .un, .un], z]) H1 n :=
  ⟨h.1, fun w F loc vs hs hn hv => (h.2 w F loc vs hs hn hv).mono fun _ _ ⟨v, c', he, hc, hx, hsit, hcv⟩ => ⟨v, c', he, hc, hx, hsit, cv_un hcv⟩⟩
end Go.TL

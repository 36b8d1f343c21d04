/- For every whole number RegionOf of the program answers as the reference does; no condition. -/
import Derived.Test.YtmmhgioeoikgbaaPFnExactRegionOfx1
namespace Go.Proofs.Ytmmhgioeoikgbaa.Pure
open Go.RowKit Go.Proofs.Ytmmhgioeoikgbaa.PFnExactRegionOf Go.Proofs.YtmmhgioeoikgbaaW.PrintWords Go.Proofs.YtmmhgioeoikgbaaW.PrintLast

theorem FnExactRegionOf : laws_FnExactRegionOf.Pure := by
  intro a0 h0
  unfold laws_FnExactRegionOf.f spec_RegionOf.f impl_RegionOf.f impl_isVersion.f spec_l13Version.f impl_in.f spec_l1In.f
  by_cases h1 : a0 ≥ 0 <;> by_cases h2 : a0 ≤ 1000000 <;> simp [h1, h2]

end Go.Proofs.Ytmmhgioeoikgbaa.Pure

import Derived.Test.YteonagfnhdlfcaaGreatDoorG21PlLib
import Derived.Test.YteonagfnhdlfcaaGreatDoorG19PlR1
import Derived.Test.YteonagfnhdlfcaaGreatDoorG22PpR1
set_option linter.unusedSimpArgs false
set_option linter.unusedVariables false
namespace Go.TL
theorem bstr_one (x : Int) : (bstr [x]).size = 1 := rfl
theorem markText_some (k : Int) (hk : 0 ≤ k) (hb : k ≤ 4611686018427387904) : ∃ s,zaz k = some s := by
 have key : okO (fun _ => True) (zaz k) := by
  unfold zaz
  refine okO.ite (fun _ => okO.some trivial) (fun _ => ?_)
  refine okO.bind (P := fun y => y.t3.size ≤ 4611686018427387904) ?_ fun y hy => ?_
  ·refine okO.loop (fun g => 0 ≤ g.t0 ∧ (g.t3.size : Int) + g.t0 ≤ 4611686018427387904) (fun g => g.t0.toNat) ⟨hk,by have : ByteArray.empty.size = 0 := rfl; simp only [this]; omega⟩ fun g ⟨h1,h2⟩ => ?_
   unfold zdm
   refine okO.ite (fun hc => ?_) (fun _ => okO.some (by simp only; omega))
   have hc' : g.t0 > 0 := by simpa using hc
   refine okO.guard (by rw [bstr_one]; omega) (okO.some ?_)
   have hd : g.t0.tdiv 10 = g.t0 / 10 := Int.tdiv_eq_ediv_of_nonneg (by omega)
   have hw : wI (g.t0.tdiv 10) = g.t0 / 10 := by rw [hd,wI_id (by omega)]
   simp only [hw,ByteArray.size_append,bstr_one]
   omega
  ·refine okO.guard ?_ (okO.some trivial)
   have : (⟨#[109]⟩ : ByteArray).size = 1 := rfl
   omega
 obtain ⟨s,hs,_⟩ := key
 exact ⟨s,hs⟩
noncomputable def mtext (k : Int) : ByteArray := (zaz k).getD ByteArray.empty
theorem markText_eq (k : Int) (hk : 0 ≤ k) (hb : k ≤ 4611686018427387904) : zaz k = some (mtext k) := by
 obtain ⟨s,hs⟩ := markText_some k hk hb
 unfold mtext; rw [hs]; rfl
end Go.TL
namespace Go.TL
def without (l : List PacketT) (k : Nat) : List PacketT := l.take k ++ l.drop (k + 1)
end Go.TL
set_option maxRecDepth 4000
namespace Go.TL
end Go.TL
namespace Go.TL
end Go.TL
namespace Go.TL
end Go.TL
namespace Go.TL
end Go.TL
namespace Go.TL
end Go.TL

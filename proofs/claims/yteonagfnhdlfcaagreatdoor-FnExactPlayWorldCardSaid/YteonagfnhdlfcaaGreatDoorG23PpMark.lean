import Derived.Test.YteonagfnhdlfcaaGreatDoorG21PlLib
import Derived.Test.YteonagfnhdlfcaaGreatDoorG19PlR1
import Derived.Test.YteonagfnhdlfcaaGreatDoorG22PpR1
set_option linter.unusedSimpArgs false
set_option linter.unusedVariables false
noncomputable section
namespace Go.TL
theorem zuV (x:Int):(zsf [x]).size=1:=rfl
theorem zss (k:Int) (hk:0≤k) (hb:k≤4611686018427387904):∃ s,zak k=some s:=by
 have key:okO (λ _=>True) (zak k):=by
  unfold zak
  refine okO.ite (λ _=>okO.some trivial) (λ _=>?_)
  refine okO.bind (P:=λ y=>y.t3.size≤4611686018427387904) ?_ λ y hy=>?_
  ·refine okO.loop (λ g=>0≤g.t0∧(g.t3.size:Int)+g.t0≤4611686018427387904) (λ g=>g.t0.toNat) ⟨hk,by have:ByteArray.empty.size=0:=rfl;simp only [this];omega⟩ λ g ⟨h1,h2⟩=>?_
   unfold zeC
   refine okO.ite (λ hc=>?_) (λ _=>okO.some (by simp only;omega))
   have hc':g.t0 > 0:=by simpa using hc
   refine okO.guard (by rw [zuV];omega) (okO.some ?_)
   have hd:g.t0.tdiv 10=g.t0 / 10:=Int.tdiv_eq_ediv_of_nonneg (by omega)
   have hw:wI (g.t0.tdiv 10)=g.t0 / 10:=by rw [hd,zj0 (by omega)]
   simp only [hw,ByteArray.size_append,zuV]
   omega
  ·refine okO.guard ?_ (okO.some trivial)
   have:(⟨#[109]⟩:ByteArray).size=1:=rfl
   omega
 obtain ⟨s,hs,_⟩:=key
 exact ⟨s,hs⟩
def zwV (k:Int):ByteArray:=(zak k).getD ByteArray.empty
theorem zow (k:Int) (hk:0≤k) (hb:k≤4611686018427387904):zak k=some (zwV k):=by
 obtain ⟨s,hs⟩:=zss k hk hb
 unfold zwV;rw [hs];rfl
end Go.TL
namespace Go.TL
def zDq (l:List zq1) (k:Nat):List zq1:=l.take k++l.drop (k+1)
end Go.TL
set_option maxRecDepth 4000
namespace Go.TL
end Go.TL
namespace Go.TL
end Go.TL
namespace Go.TL
end Go.TL
namespace Go.TL
end Go.TL
namespace Go.TL
end Go.TL

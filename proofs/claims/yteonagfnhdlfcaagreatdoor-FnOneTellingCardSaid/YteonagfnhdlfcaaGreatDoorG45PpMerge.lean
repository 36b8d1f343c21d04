import Derived.Test.YteonagfnhdlfcaaGreatDoorG24PpR2D
import Derived.Test.YteonagfnhdlfcaaGreatDoorG20PlR3M
import Derived.Test.YteonagfnhdlfcaaGreatDoorG23PpMark
import Derived.Test.YteonagfnhdlfcaaGreatDoorG25PpR3D
open Int renaming tmod_eq_emod_of_nonneg → qa
open Option renaming bind_some → qb
open List renaming all_eq_true → qc
set_option linter.unusedSimpArgs false
set_option linter.unusedVariables false
noncomputable section
namespace Go.TL
end Go.TL
namespace Go.TL
theorem zE9 {β:Type} {f:ByteArray×zkK→Option β} {Q:β→Prop} {c:zkK} {K:Int} {l:List ByteArray} (h:cur c K) (hK:K≤4611686018427387000) (hn:1≤l.length∧l.length≤1000)
  (hf:∀ x c',x∈l→cur c' (K+2)→okO Q (f (x,c'))):okO Q ((zdo c l).bind f):=by
 unfold zdo
 refine okO.bind_bind (zn0 h hK (by omega) λ x c' h1 h2 h3 h4=>?_)
 have:=h3 (by omega)
 exact okO.bind_guard ⟨h1,by simpa using this⟩ (okO.bind_some (hf _ _ (zkJ (by omega)) h4))
theorem zx7 {l:List ByteArray} (h:l.all (λ x=>decide (x.size≤100))=true) {x:ByteArray} (hx:x∈l):x.size≤100:=by
 rw [qc] at h
 simpa using h x hx
theorem zvo {x:ByteArray} (h:x.size≤100):zoA x:=by unfold zoA;omega
theorem zsk {v r:Int} (h:(zly v r).2=true):(zly v r).1.tmod 10=r∧v < (zly v r).1∧0≤(zly v r).1∧(zly v r).1≤1000000:=by
 unfold zly at h ⊢
 split at h
 ·rename_i h1
  rw [if_pos h1]
  split at h
  ·rename_i h2
   rw [if_pos h2]
   refine ⟨?_,?_,h2.1,h2.2⟩
   ·simp only
    rw [qa h2.1]
    unfold znb
    rw [qa h1.1.1]
    split<;>omega
   ·simp only
    unfold znb
    rw [qa h1.1.1]
    split<;>omega
  ·cases h
 ·cases h
end Go.TL
namespace Go.TL
theorem zw4 {β:Type} {f:Int×zkK→Option β} {Q:β→Prop} {c:zkK} {K:Int} {l:List Int} (h:cur c K) (hK:K≤4611686018427387000) (hn:1≤l.length∧l.length≤1000)
  (hf:∀ x c',x∈l→cur c' (K+2)→okO Q (f (x,c'))):okO Q ((za8 c l).bind f):=by
 unfold za8
 refine okO.bind_bind (zn0 h hK (by omega) λ x c' h1 h2 h3 h4=>?_)
 have:=h3 (by omega)
 exact okO.bind_guard ⟨h1,by simpa using this⟩ (okO.bind_some (hf _ _ (zkJ (by omega)) h4))
theorem zw5 {l:List Int} (h:l.all (λ x=>decide (-9223372036854775808≤x∧x≤9223372036854775807))=true) {x:Int} (hx:x∈l):zl6 x:=by
 rw [qc] at h
 have h1:=of_decide_eq_true (h x hx)
 exact ⟨h1.1,h1.2⟩
theorem zB2 {β:Type} {f:ByteArray×zkK→Option β} {Q:β→Prop} {c:zkK} {K:Int} (h:cur c K) (hK:K≤4611686018427387000) (hf:∀ x c',x.size≤100→cur c' (K+2)→okO Q (f (x,c'))):okO Q ((zbg c).bind f):=by
 unfold zbg
 refine okO.bind_bind (zE9 h hK (by simp) λ x c' hx hc=>okO.bind_some (hf _ _ (zx7 (by decide) hx) hc))
theorem zwm (s:zkq) (e:zka) (hg:zlY s=true) (hev:evP e=true) (hid:e.Id=s.Next):zbG s e.Kind e.Name=some ((zkR s e).isSome,true):=by
 have n:=zmd hg
 have n1:=zlo n.2.2.2.1
 have n2:=zlo n.2.2.2.2
 have hk:decide (1≤e.Kind∧e.Kind≤6)=true∧zlq e.Name=true:=by
  unfold evP at hev
  simp only [Bool.and_eq_true] at hev
  exact ⟨hev.1.2,hev.2⟩
 unfold zbG zal
 rw [zcU s (by omega) (by omega),hg]
 simp only [qb,zak,zch,hk.1,hk.2,Bool.not_true,Bool.false_eq_true,if_false]
 have hcl:za5 s=some s:=by
  unfold za5 za7
  rw [zj9 (by omega),zj9 (by omega)]
  rfl
 rw [hcl]
 simp only [qb]
 obtain ⟨r,hr,ht,hf⟩:=zij s e hg hev hid
 rw [hr]
 simp only [qb]
 cases hb:r.1
 ·rw [hf hb];simp
 ·obtain ⟨g1,g2⟩:=ht hb
  have hlen:=zu6 hg g2
  rw [if_pos rfl,zcU r.2 (by omega) (by omega)]
  have ha:zkR s e=if zlY r.2=true then some r.2 else none:=by unfold zkR;rw [if_pos g1,g2];rfl
  rw [ha]
  simp only [qb]
  cases zlY r.2<;>simp
end Go.TL

import Derived.Test.YteonagfnhdlfcaaGreatDoorG19PlR1
import Derived.Test.YteonagfnhdlfcaaGreatDoorG21PlLib
open Option renaming bind_some → qa
open Int renaming tmod_lt_of_pos → qb, tmod_nonneg → qc
set_option linter.unusedSimpArgs false
set_option linter.unusedVariables false
noncomputable section
set_option maxRecDepth 4000
namespace Go.TL
def zoA (x:ByteArray):Prop:=x.size≤9223372036854775807
def zr7 (x:(List ByteArray)):Prop:=x.length≤9223372036854775807∧∀ y∈x,zoA y
def zl6 (x:Int):Prop:=-9223372036854775808≤x∧x≤9223372036854775807
end Go.TL
namespace Go.TL
theorem zaF (n a b:Int):z7 n a b=some (decide (a≤n∧n≤b)):=by
 unfold z7
 by_cases h:a≤n<;>simp [h]
theorem zak (n a b:Int):zc9 n a b=some (decide (a≤n∧n≤b)):=zaF n a b
end Go.TL
namespace Go.TL
def cur (c:zkK) (K:Int):Prop:=0≤c.at_∧c.at_≤K∧∀ y∈c.code,0≤y∧y≤255
theorem cur.up {c:zkK} {K L:Int} (h:cur c K) (hl:K≤L):cur c L:=⟨h.1,Int.le_trans h.2.1 hl,h.2.2⟩
theorem zoe (a:Int):0≤zqY 64 a 255∧zqY 64 a 255≤255:=by
 unfold zqY
 rw [BitVec.toNat_and]
 have:(BitVec.ofInt 64 255).toNat=255:=by decide
 rw [this]
 have:=Nat.and_le_right (n:=(BitVec.ofInt 64 a).toNat) (m:=255)
 omega
theorem zwV {c:zkK} {K:Int} (h:cur c K) (hK:K≤4611686018427387904):∃ x c',zbQ c=some (x,c')∧0≤x∧x≤255∧cur c' (K+1):=by
 obtain ⟨h1,h2,h3⟩:=h
 unfold zbQ
 have hw:wI (c.at_+1)=c.at_+1:=zkU (by omega)
 have hb:∀ s:Int,wI (wU (zqY 64 s 255))=zqY 64 s 255:=λ s=>by
  have:=zoe s
  rw [zBg (by omega),zkU (by omega)]
 have hcur:∀ s:Int,cur ⟨c.code,wI (c.at_+1),s⟩ (K+1):=λ s=>by
  rw [hw];exact ⟨by simp only;omega,by simp only;omega,h3⟩
 by_cases ha:c.at_ < ((c.code.length:Nat):Int)
 ·rw [if_pos (decide_eq_true ha),zj9 ⟨h1,ha⟩]
  simp only [qa]
  have hm:nth c.code c.at_.toNat∈c.code:=zkJ (by omega)
  have hy:=h3 _ hm
  by_cases hc:wI (c.at_+1)≤((c.code.length:Nat):Int)
  ·rw [if_pos (decide_eq_true hc)]
   exact ⟨_,_,rfl,by rw [zkU (by omega)];omega,by rw [zkU (by omega)];omega,hcur _⟩
  ·rw [if_neg (by simpa using hc)]
   exact ⟨_,_,rfl,by rw [hb];exact (zoe _).1,by rw [hb];exact (zoe _).2,hcur _⟩
 ·rw [if_neg (by simpa using ha)]
  simp only [qa]
  by_cases hc:wI (c.at_+1)≤((c.code.length:Nat):Int)
  ·rw [if_pos (decide_eq_true hc)]
   exact ⟨_,_,rfl,by omega,by omega,hcur _⟩
  ·rw [if_neg (by simpa using hc)]
   exact ⟨_,_,rfl,by rw [hb];exact (zoe _).1,by rw [hb];exact (zoe _).2,hcur _⟩
theorem zwW {c:zkK} {K:Int} (n:Int) (h:cur c K) (hK:K≤4611686018427387000) (hn:n≤100000) :
  ∃ x c',zk c n=some (x,c')∧0≤x∧(n≤1→x=0)∧(1≤n→x < n)∧cur c' (K+2):=by
 unfold zk
 by_cases h1:n≤1
 ·rw [if_pos (decide_eq_true h1)]
  exact ⟨0,c,rfl,by omega,λ _=>rfl,λ _=>by omega,h.up (by omega)⟩
 ·rw [if_neg (by simpa using h1)]
  obtain ⟨x,c',e,x0,x1,hc⟩:=zwV h (by omega)
  rw [e]
  simp only [qa]
  by_cases h2:n > 200
  ·rw [if_pos (decide_eq_true h2)]
   obtain ⟨y,c2,e2,y0,y1,hc2⟩:=zwV hc (by omega)
   rw [e2]
   simp only [qa]
   rw [zj9 (by omega),zkU (n:=x * 256) (by omega),zkU (by omega)]
   refine ⟨_,_,rfl,qc _ (by omega),λ _=>by omega,λ _=>qb _ (by omega),hc2.up (by omega)⟩
  ·rw [if_neg (by simpa using h2),zj9 (by omega)]
   exact ⟨_,_,rfl,qc _ (by omega),λ _=>by omega,λ _=>qb _ (by omega),hc.up (by omega)⟩
theorem zBQ {c:zkK} {K:Int} (n:Int) (h:cur c K) (hK:K≤4611686018427387000) (hn:n≤100000) :
  ∃ x c',zaD c n=some (x,c')∧cur c' (K+2):=by
 unfold zaD
 obtain ⟨x,c',e,_,_,_,hc⟩:=zwW n h hK hn
 rw [e]
 exact ⟨_,_,rfl,hc⟩
theorem zEL {code:List Int} (h:∀ y∈code,0≤y∧y≤255):cur ⟨code,0,0⟩ 0:=⟨by simp,by simp,h⟩
end Go.TL
namespace Go.TL
theorem zn0 {β:Type} {f:Int×zkK→Option β} {Q:β→Prop} {c:zkK} {K n:Int} (h:cur c K) (hK:K≤4611686018427387000) (hn:n≤100000)
  (hf:∀ x c',0≤x→(n≤1→x=0)→(1≤n→x < n)→cur c' (K+2)→okO Q (f (x,c'))):okO Q ((zk c n).bind f):=by
 obtain ⟨x,c',e,h1,h2,h3,h4⟩:=zwW n h hK hn
 rw [e];exact hf x c' h1 h2 h3 h4
theorem zy9 {β:Type} {f:Bool×zkK→Option β} {Q:β→Prop} {c:zkK} {K n:Int} (h:cur c K) (hK:K≤4611686018427387000) (hn:n≤100000)
  (hf:∀ x c',cur c' (K+2)→okO Q (f (x,c'))):okO Q ((zaD c n).bind f):=by
 obtain ⟨x,c',e,h4⟩:=zBQ n h hK hn
 rw [e];exact hf x c' h4
end Go.TL
namespace Go.TL
end Go.TL

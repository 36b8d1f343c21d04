import Derived.Test.YteonagfnhdlfcaaGreatDoorG19PlR1
import Derived.Test.YteonagfnhdlfcaaGreatDoorG21PlLib
set_option linter.unusedSimpArgs false
set_option linter.unusedVariables false
noncomputable section
set_option maxRecDepth 4000
namespace Go.TL
def zqy (x:ByteArray):Prop:=x.size≤9223372036854775807
def zB6 (x:ByteArray):Nat:=x.size
def zC4 (_:ByteArray):Prop:=True
theorem zBx {x:ByteArray} (_:zqy x):zC4 x:=trivial
def ztk (x:(List ByteArray)):Prop:=x.length≤9223372036854775807∧∀ y∈x,zqy y
def zoV (x:Int):Prop:=-9223372036854775808≤x∧x≤9223372036854775807
def zos (_:Int):Nat:=0
def zwb (_:Int):Prop:=True
theorem zpx {x:Int} (_:zoV x):zwb x:=trivial
theorem zqX (x:Int):zos x=0:=rfl
end Go.TL
namespace Go.TL
theorem zeT (n a b:Int):zaT n a b=some (decide (a≤n∧n≤b)):=by
 unfold zaT
 by_cases h:a≤n<;>simp [h]
theorem zc5 (n a b:Int):zeu n a b=some (decide (a≤n∧n≤b)):=zeT n a b
theorem zCw {s:Nat} {n:Int} (h:(s:Int)≤n):¬ szr s n < 0:=by unfold szr;rw [if_pos h];omega
theorem zCx {s:Nat} {n:Int} (h:¬ (s:Int)≤n):szr s n < 0:=by unfold szr;rw [if_neg h];omega
end Go.TL
namespace Go.TL
def cur (c:zAd) (K:Int):Prop:=0≤c.at_∧c.at_≤K∧∀ y∈c.code,0≤y∧y≤255
theorem cur.up {c:zAd} {K L:Int} (h:cur c K) (hl:K≤L):cur c L:=⟨h.1,Int.le_trans h.2.1 hl,h.2.2⟩
end Go.TL
namespace Go.TL
end Go.TL
namespace Go.TL
end Go.TL

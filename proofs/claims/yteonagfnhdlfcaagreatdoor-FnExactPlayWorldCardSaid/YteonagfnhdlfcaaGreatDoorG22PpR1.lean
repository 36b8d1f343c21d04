import Derived.Test.YteonagfnhdlfcaaGreatDoorG19PlR1
import Derived.Test.YteonagfnhdlfcaaGreatDoorG21PlLib
set_option linter.unusedSimpArgs false
set_option linter.unusedVariables false
noncomputable section
set_option maxRecDepth 4000
namespace Go.TL
def zn1 (x:ByteArray):Prop:=x.size≤9223372036854775807
def zBc (x:ByteArray):Nat:=x.size
def zBG (_:ByteArray):Prop:=True
theorem zwU {x:ByteArray} (_:zn1 x):zBG x:=trivial
def zrK (x:(List ByteArray)):Prop:=x.length≤9223372036854775807∧∀ y∈x,zn1 y
def zlV (x:Int):Prop:=-9223372036854775808≤x∧x≤9223372036854775807
def zpD (_:Int):Nat:=0
def zqd (_:Int):Prop:=True
theorem zmd {x:Int} (_:zlV x):zqd x:=trivial
theorem ztT (x:Int):zpD x=0:=rfl
end Go.TL
namespace Go.TL
theorem zbk (n a b:Int):zN n a b=some (decide (a≤n∧n≤b)):=by
 unfold zN
 by_cases h:a≤n<;>simp [h]
theorem zcJ (n a b:Int):zdn n a b=some (decide (a≤n∧n≤b)):=zbk n a b
theorem zBH {s:Nat} {n:Int} (h:(s:Int)≤n):¬ szr s n < 0:=by unfold szr;rw [if_pos h];omega
theorem zBJ {s:Nat} {n:Int} (h:¬ (s:Int)≤n):szr s n < 0:=by unfold szr;rw [if_neg h];omega
end Go.TL
namespace Go.TL
def cur (c:zy3) (K:Int):Prop:=0≤c.at_∧c.at_≤K∧∀ y∈c.code,0≤y∧y≤255
theorem cur.up {c:zy3} {K L:Int} (h:cur c K) (hl:K≤L):cur c L:=⟨h.1,Int.le_trans h.2.1 hl,h.2.2⟩
end Go.TL
namespace Go.TL
end Go.TL
namespace Go.TL
end Go.TL

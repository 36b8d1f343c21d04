import Derived.Test.YteonagfnhdlfcaaGreatDoorTlAttr
import Derived.Test.YteonagfnhdlfcaaGreatDoorG0TlCore
set_option linter.unusedSimpArgs false
set_option linter.unusedVariables false
noncomputable section
namespace Go.TL
open Go
abbrev I (n:Int):LV:=.lf false (.sc (.int .i64 n))
abbrev B (b:Bool):LV:=.lf false (.sc (.bool b))
theorem df {p:Prop} [Decidable p] (h:¬ p):decide p=false:=decide_eq_false h
section
variable {α:Type} [Inhabited α] {f:α→List Leaf} {l:List α} {n:Nat}
theorem zkQ (h:n < l.length):nth l n=l[n]:=by simp [nth,List.getD,h]
theorem zy3 (h:n < l.length):(l.map f).getD n []=f (nth l n):=by simp [nth,List.getD,h]
end
theorem zAC {n:Nat}:(n:Int).toNat=n:=Int.toNat_natCast n
section
variable {α:Type} [Inhabited α] {f:α→List Leaf} {l:List α} {n:Nat}
end
section
variable {α:Type} [Inhabited α] [DecidableEq α] {a b:List α} {i:Nat}
end
end Go.TL

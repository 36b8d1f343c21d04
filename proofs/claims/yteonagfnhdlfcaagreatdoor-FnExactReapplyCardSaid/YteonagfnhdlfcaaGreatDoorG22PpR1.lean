import Derived.Test.YteonagfnhdlfcaaGreatDoorG19PlR1
import Derived.Test.YteonagfnhdlfcaaGreatDoorG21PlLib
set_option linter.unusedSimpArgs false
set_option linter.unusedVariables false
set_option maxRecDepth 4000
namespace Go.TL
def ok_S (x : ByteArray) : Prop := x.size ≤ 9223372036854775807
def siz_S (x : ByteArray) : Nat := x.size
def lk_S (_ : ByteArray) : Prop := True
theorem lk_of_S {x : ByteArray} (_ : ok_S x) : lk_S x := trivial
def ok_LS (x : (List ByteArray)) : Prop := x.length ≤ 9223372036854775807 ∧ ∀ y ∈ x,ok_S y
def ok_I (x : Int) : Prop := -9223372036854775808 ≤ x ∧ x ≤ 9223372036854775807
def siz_I (_ : Int) : Nat := 0
def lk_I (_ : Int) : Prop := True
theorem lk_of_I {x : Int} (_ : ok_I x) : lk_I x := trivial
theorem siz0_I (x : Int) : siz_I x = 0 := rfl
end Go.TL
namespace Go.TL
theorem zd3 (n a b : Int) : zaE n a b = some (decide (a ≤ n ∧ n ≤ b)) := by
 unfold zaE
 by_cases h : a ≤ n <;> simp [h]
theorem zcK (n a b : Int) : zdG n a b = some (decide (a ≤ n ∧ n ≤ b)) := zd3 n a b
theorem szr_ok {s : Nat} {n : Int} (h : (s : Int) ≤ n) : ¬ szr s n < 0 := by unfold szr; rw [if_pos h]; omega
theorem szr_no {s : Nat} {n : Int} (h : ¬ (s : Int) ≤ n) : szr s n < 0 := by unfold szr; rw [if_neg h]; omega
end Go.TL
namespace Go.TL
def cur (c : l1CurT) (K : Int) : Prop := 0 ≤ c.at_ ∧ c.at_ ≤ K ∧ ∀ y ∈ c.code,0 ≤ y ∧ y ≤ 255
theorem cur.up {c : l1CurT} {K L : Int} (h : cur c K) (hl : K ≤ L) : cur c L := ⟨h.1,Int.le_trans h.2.1 hl,h.2.2⟩
end Go.TL
namespace Go.TL
end Go.TL
namespace Go.TL
end Go.TL

import Derived.Test.YtjkeoippmlmfbaaGreatDoorTlAttr
import Derived.Test.YtjkeoippmlmfbaaGreatDoorG0TlCore
set_option linter.unusedSimpArgs false
set_option linter.unusedVariables false
namespace Go.TL
open Go
abbrev I (n : Int) : LV := .lf false (.sc (.int .i64 n))
abbrev U (n : Int) : LV := .lf false (.sc (.int .u64 n))
abbrev B (b : Bool) : LV := .lf false (.sc (.bool b))
theorem w64 {n : Int} (h : -9223372036854775808 ≤ n ∧ n ≤ 9223372036854775807) : IntKind.i64.wrap n = n := by
  unfold IntKind.wrap; simp [IntKind.bits,IntKind.signed]; omega
theorem dt {p : Prop} [Decidable p] (h : p) : decide p = true := decide_eq_true h
theorem df {p : Prop} [Decidable p] (h : ¬ p) : decide p = false := decide_eq_false h

/-- Rows by their numbers. -/
def tabL (n : Nat) (g : Nat → List Leaf) : List (List Leaf) := (List.range n).map g
theorem tabL_len (n : Nat) (g : Nat → List Leaf) : (tabL n g).length = n := by simp [tabL]
theorem tabGet {n m : Nat} {g : Nat → List Leaf} (h : n < m) : (tabL m g).getD n [] = g n := by simp [tabL,List.getD,h]


section
variable {α : Type} [Inhabited α] {f : α → List Leaf} {l : List α} {n : Nat}
theorem nth_eq (h : n < l.length) : nth l n = l[n] := by simp [nth,List.getD,h]
theorem rowGet (h : n < l.length) : (l.map f).getD n [] = f (nth l n) := by simp [nth,List.getD,h]
omit [Inhabited α] in
theorem fillGet {z : List Leaf} {m : Nat} (h : n < m) (hl : n ≤ l.length) : ((l.take n).map f ++ List.replicate (m - n) z).getD n [] = z := by
  rw [List.getD_eq_getElem?_getD,List.getElem?_append_right (by simp; omega)]
  have : m - n = (m - n - 1) + 1 := by omega
  rw [this,List.replicate_succ]
  have e : n - ((l.take n).map f).length = 0 := by simp; omega
  rw [e]; rfl
theorem fillSet {z : List Leaf} (h : n < l.length) : ((l.take n).map f ++ List.replicate (l.length - n) z).set n (f (nth l n)) = (l.take (n + 1)).map f ++ List.replicate (l.length - (n + 1)) z := by
  have e1 : l.length - n = (l.length - (n + 1)) + 1 := by omega
  have hl : ((l.take n).map f).length = n := by rw [List.length_map,List.length_take]; omega
  rw [e1,List.replicate_succ,List.set_append_right _ _ (by omega),nth_eq h,hl,Nat.sub_self,List.set_cons_zero,List.take_succ_eq_append_getElem h,List.map_append,List.append_assoc]
  rfl
theorem markGet {g : Nat → List Leaf} (h : n < l.length) : (tabL n g ++ (l.drop n).map f).getD n [] = f (nth l n) := by
  rw [List.getD_eq_getElem?_getD,List.getElem?_append_right (by simp [tabL])]
  simp [tabL,h,nth_eq h]
omit [Inhabited α] in
theorem markSet {g : Nat → List Leaf} {r : List Leaf} (h : n < l.length) (hr : r = g n) : (tabL n g ++ (l.drop n).map f).set n r = tabL (n + 1) g ++ (l.drop (n + 1)).map f := by
  subst hr
  unfold tabL
  rw [List.set_append_right _ _ (by simp),List.drop_eq_getElem_cons h,List.length_map,List.length_range,Nat.sub_self,List.map_cons,List.set_cons_zero,List.range_succ,List.map_append,List.append_assoc]
  rfl
omit [Inhabited α] in
theorem getSetM {g : Nat → List Leaf} {r : List Leaf} (h : n < l.length) : ((tabL n g ++ (l.drop n).map f).set n r).getD n [] = r := by
  have : n < (tabL n g ++ (l.drop n).map f).length := by simp [tabL]; omega
  rw [List.getD_eq_getElem?_getD,List.getElem?_set_self this]; rfl
omit [Inhabited α] in
theorem getSetF {z r : List Leaf} (h : n < l.length) : (((l.take n).map f ++ List.replicate (l.length - n) z).set n r).getD n [] = r := by
  have : n < ((l.take n).map f ++ List.replicate (l.length - n) z).length := by rw [List.length_append,List.length_map,List.length_take,List.length_replicate]; omega
  rw [List.getD_eq_getElem?_getD,List.getElem?_set_self this]; rfl
theorem getSet {l : List (List Leaf)} {r : List Leaf} (h : n < l.length) : (l.set n r).getD n [] = r := by simp [List.getD,h]
theorem rangeGet_ {g : Nat → List Leaf} {m : Nat} (h : n < m) : ((List.range m).map g).getD n [] = g n := by simp [List.getD,h]
end
theorem toNat_i {n : Nat} : (n : Int).toNat = n := Int.toNat_natCast n
section
variable {α : Type} [Inhabited α] {f : α → List Leaf} {l : List α} {n : Nat}
theorem fillSet' {z r : List Leaf} (h : n < l.length) (hr : r = f (nth l n)) : (l.take (n + 1)).map f ++ List.replicate (l.length - (n + 1)) z = ((l.take n).map f ++ List.replicate (l.length - n) z).set n r := by
  rw [hr]; exact (fillSet h).symm
omit [Inhabited α] in
theorem fillEnd {z : List Leaf} (h : l.length ≤ n) : (l.take n).map f ++ List.replicate (l.length - n) z = l.map f := by
  rw [List.take_of_length_le h,show l.length - n = 0 by omega]; simp
omit [Inhabited α] in
theorem fill0 {z : List Leaf} : (l.take 0).map f ++ List.replicate (l.length - 0) z = List.replicate l.length z := by simp
omit [Inhabited α] in
theorem mark0 {g : Nat → List Leaf} : tabL 0 g ++ (l.drop 0).map f = l.map f := by simp [tabL]
omit [Inhabited α] in
theorem markEnd {g : Nat → List Leaf} (h : l.length ≤ n) (h' : n ≤ l.length) : tabL l.length g = tabL n g ++ (l.drop n).map f := by
  rw [List.drop_of_length_le h,show n = l.length by omega]; simp
omit [Inhabited α] in
theorem markSet' {g : Nat → List Leaf} {r : List Leaf} (h : n < l.length) (hr : r = g n) : tabL (n + 1) g ++ (l.drop (n + 1)).map f = (tabL n g ++ (l.drop n).map f).set n r := (markSet h hr).symm
end
theorem leaf_int {a b : Int} (h : a = b) : Leaf.sc (.int .i64 a) = Leaf.sc (.int .i64 b) := by rw [h]
theorem lv_bool {a b : Bool} (h : a = b) : LV.lf false (.sc (.bool a)) = LV.lf false (.sc (.bool b)) := by rw [h]

section
variable {α : Type} [Inhabited α] [DecidableEq α] {a b : List α} {i : Nat}
omit [DecidableEq α] in
theorem list_eq (h : a.length = b.length) (hn : ∀ j,j < a.length → nth a j = nth b j) : a = b := by
  refine List.ext_getElem h fun j h1 h2 => ?_
  have := hn j h1
  rwa [nth_eq h1,nth_eq h2] at this
omit [Inhabited α] in
theorem eq_ff (h : ¬ (a.length : Int) = b.length) : decide (a = b) = false := decide_eq_false fun e => h (by rw [e])
theorem eq_fn (h : ¬ nth a i = nth b i) : decide (a = b) = false := decide_eq_false fun e => h (by rw [e])
theorem eq_tt (h1 : a.length = b.length) (h2 : ∀ j,j < i → nth a j = nth b j) (h3 : a.length ≤ i) : decide (a = b) = true :=
  decide_eq_true (list_eq h1 fun j hj => h2 j (by omega))
end
end Go.TL

import Derived.Lib.SlTrimSet
import Derived.Test.YtjkeoippmlmfbaaGreatDoorG0TlCore
import Derived.Lib.SlicesCompact
set_option linter.unusedSimpArgs false
set_option linter.unusedVariables false
namespace Go.TL
def trimB (a b : ByteArray) : ByteArray := ⟨(Go.Lib.trimS a.data.toList b.data.toList).toArray⟩
end Go.TL
namespace Go.TL

section
variable {α : Type}
end

theorem bL_irr : ∀ l : List UInt8, bLess l l = false
  | [] => rfl
  | x :: r => by simp [bLess, bL_irr r]
theorem bL_trans : ∀ a b c : List UInt8, bLess a b = true → bLess b c = true → bLess a c = true
  | _, [], _, h, _ => by simp [bLess] at h
  | _, _ :: _, [], _, h => by simp [bLess] at h
  | [], _ :: _, _ :: _, _, _ => rfl
  | x :: r, y :: q, z :: s, h1, h2 => by
    simp only [bLess, Bool.or_eq_true, Bool.and_eq_true, decide_eq_true_eq, beq_iff_eq] at h1 h2 ⊢
    rcases h1 with h1 | ⟨rfl, h1⟩
    · rcases h2 with h2 | ⟨rfl, h2⟩
      · exact .inl (UInt8.lt_trans h1 h2)
      · exact .inl h1
    · rcases h2 with h2 | ⟨rfl, h2⟩
      · exact .inl h2
      · exact .inr ⟨rfl, bL_trans r q s h1 h2⟩
theorem bL_tri : ∀ a b : List UInt8, bLess a b = true ∨ a = b ∨ bLess b a = true
  | [], [] => .inr (.inl rfl)
  | [], _ :: _ => .inl rfl
  | _ :: _, [] => .inr (.inr rfl)
  | x :: r, y :: q => by
    simp only [bLess, Bool.or_eq_true, Bool.and_eq_true, decide_eq_true_eq, beq_iff_eq, List.cons.injEq]
    rcases Nat.lt_trichotomy x.toNat y.toNat with h | h | h
    · exact .inl (.inl (UInt8.lt_iff_toNat_lt.2 h))
    · have e : x = y := UInt8.toNat_inj.1 h
      subst e
      rcases bL_tri r q with h | h | h
      · exact .inl (.inr ⟨rfl, h⟩)
      · exact .inr (.inl ⟨rfl, h⟩)
      · exact .inr (.inr (.inr ⟨rfl, h⟩))
    · exact .inr (.inr (.inl (UInt8.lt_iff_toNat_lt.2 h)))
theorem bL_ntrans (a b c : List UInt8) (h1 : bLess a b = false) (h2 : bLess b c = false) : bLess a c = false := by
  cases h : bLess a c with
  | false => rfl
  | true =>
    rcases bL_tri a b with h3 | h3 | h3
    · rw [h1] at h3; cases h3
    · subst h3; rw [h2] at h; cases h
    · have := bL_trans b a c h3 h
      rw [h2] at this; cases this
end Go.TL
namespace Go.TL
def bytesL (s : ByteArray) : List UInt8 := s.data.toList
def textL (l : List UInt8) : ByteArray := ⟨l.toArray⟩
theorem text_bytes (s : ByteArray) : textL (bytesL s) = s := by unfold textL bytesL; simp
theorem bytes_text (l : List UInt8) : bytesL (textL l) = l := by unfold textL bytesL; simp
def sortS (l : List ByteArray) : List ByteArray := ((l.map bytesL).mergeSort fun x y => decide (x ≤ y)).map textL
def compS (l : List ByteArray) : List ByteArray := (Go.Lib.compact (l.map bytesL)).map textL
theorem sortS_len (l : List ByteArray) : (sortS l).length = l.length := by
  unfold sortS
  rw [List.length_map, List.length_mergeSort, List.length_map]
theorem compS_len (l : List ByteArray) : (compS l).length ≤ l.length := by
  unfold compS Go.Lib.compact Go.Lib.compactUpTo
  rw [List.length_map, List.length_map]
  refine Nat.le_trans (List.length_filter_le _ _) ?_
  simp
end Go.TL

import Derived.Test.YtjkeoippmlmfbaaGreatDoorPlSort
import Derived.Lib.SlicesCompact
set_option linter.unusedSimpArgs false
set_option linter.unusedVariables false
namespace Go.TL
def bytesL (s : ByteArray) : List UInt8 := s.data.toList
def textL (l : List UInt8) : ByteArray := ⟨l.toArray⟩
theorem text_bytes (s : ByteArray) : textL (bytesL s) = s := by unfold textL bytesL; simp
theorem bytes_text (l : List UInt8) : bytesL (textL l) = l := by unfold textL bytesL; simp
def sortS (l : List ByteArray) : List ByteArray := ((l.map bytesL).mergeSort fun x y => decide (x ≤ y)).map textL
def compS (l : List ByteArray) : List ByteArray := (Go.Lib.compact (l.map bytesL)).map textL
theorem sortS_len (l : List ByteArray) : (sortS l).length = l.length := by
  unfold sortS
  rw [List.length_map, List.length_mergeSort, List.length_map]
theorem compS_len (l : List ByteArray) : (compS l).length ≤ l.length := by
  unfold compS Go.Lib.compact Go.Lib.compactUpTo
  rw [List.length_map, List.length_map]
  refine Nat.le_trans (List.length_filter_le _ _) ?_
  simp
end Go.TL

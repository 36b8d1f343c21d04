import Derived.Laws.Strings
import Derived.Test.YteonagfnhdlfcaaGreatDoorTlOpE
import Derived.Test.YteonagfnhdlfcaaGreatDoorTlStep
import Derived.Test.YteonagfnhdlfcaaGreatDoorG18PlTrim
import Derived.Shelf.SlSortCmp.NoneTotal
set_option linter.unusedSimpArgs false
set_option linter.unusedVariables false
noncomputable section
namespace Go.Proofs
open Go
end Go.Proofs
namespace Go.TL
open Go Go.Shelf Go.Proofs Go.Sort
variable {P:Program} {ρ:Go.Shelf.Ren} {α:Type} [Inhabited α]
theorem zx2 {w:World} {blk off k n:Nat} {enc:α→List Value} {d':Array α} {os:Array Obj} (hb:blk < w.heap.size) (hpos:0 < d'.size * k) :
  Keep (λ x j=>x=blk∧off≤j∧j < off+d'.size * k) w (sortWorldK enc k w blk off n d' os) where
 os:=rfl
 tape:=rfl
 output:=rfl
 size:=by
  show w.heap.size≤(grow (putRowK enc k (Sort.ahead w n) blk off d') os).heap.size
  rw [size_grow]
  have:(putRowK enc k (Sort.ahead w n) blk off d').heap.size=w.heap.size:=by unfold putRowK;rw [Sort.size_putRow];rfl
  omega
 cell b j hlt hd:=by
  have hs:(putRowK enc k (Sort.ahead w n) blk off d').heap.size=w.heap.size:=by unfold putRowK;rw [Sort.size_putRow];rfl
  show (grow (putRowK enc k (Sort.ahead w n) blk off d') os).cell? ⟨b,j,none⟩=_
  rw [cell?_grow _ _ _ (by rw [hs];exact hlt)]
  unfold putRowK
  rw [Sort.cell?_putRow_other _ _ _ _ _ _ (by rw [size_flatK];simp only;omega),Sort.cell?_ahead]
 frz b j hlt:=by
  have hs:(putRowK enc k (Sort.ahead w n) blk off d').heap.size=w.heap.size:=by unfold putRowK;rw [Sort.size_putRow];rfl
  show (grow (putRowK enc k (Sort.ahead w n) blk off d') os).frozen? ⟨b,j,none⟩=_
  rw [frozen?_grow _ _ _ (by rw [hs];exact hlt)]
  unfold putRowK
  rw [Sort.frozen?_putRow]
  rfl
 blk b hlt hd:=by
  have hs:(putRowK enc k (Sort.ahead w n) blk off d').heap.size=w.heap.size:=by unfold putRowK;rw [Sort.size_putRow];rfl
  have hne:blk≠b:=λ e=>hd off ⟨e.symm,Nat.le_refl _,by omega⟩
  show (grow (putRowK enc k (Sort.ahead w n) blk off d') os).heap[b]?=_
  rw [heap_grow_old _ _ (by rw [hs];exact hlt)]
  unfold putRowK putRow mapBlock
  simp only [Array.getElem?_modify,if_neg hne]
  rfl
 dr:=Nat.le_add_right _ _
end Go.TL

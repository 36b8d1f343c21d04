import Derived.Lib.SlTrimSet
import Derived.Test.YteonagfnhdlfcaaGreatDoorG0TlCore
import Derived.Lib.SlicesCompact
set_option linter.unusedSimpArgs false
set_option linter.unusedVariables false
namespace Go.TL
def trimB (a b : ByteArray) : ByteArray := ⟨(Go.Lib.trimS a.data.toList b.data.toList).toArray⟩
end Go.TL
namespace Go.TL
section
variable {α : Type}
def insO (lt : α → α → Bool) (x : α) : List α → List α
 | [] => [x]
 | y :: r => if lt x y = true then x :: y :: r else y :: insO lt x r
def sortO (lt : α → α → Bool) : List α → List α
 | [] => []
 | x :: r => insO lt x (sortO lt r)
def aptO (lt : α → α → Bool) : List α → Bool
 | [] => true
 | x :: r => (r.all fun y => lt x y || lt y x) && aptO lt r
theorem aptO_iff {lt : α → α → Bool} : ∀ {l : List α},aptO lt l = true ↔ l.Pairwise fun x y => lt x y = true ∨ lt y x = true
 | [] => by simp [aptO]
 | x :: r => by
  rw [List.pairwise_cons,← aptO_iff]
  simp [aptO]
theorem insO_perm (lt : α → α → Bool) (x : α) : ∀ l : List α,(insO lt x l).Perm (x :: l)
 | [] => .refl _
 | y :: r => by
  unfold insO
  split
  ·exact .refl _
  ·exact ((insO_perm lt x r).cons y).trans (.swap x y r)
theorem sortO_perm (lt : α → α → Bool) : ∀ l : List α,(sortO lt l).Perm l
 | [] => .refl _
 | x :: r => (insO_perm lt x _).trans ((sortO_perm lt r).cons x)
theorem insO_asc {lt : α → α → Bool} (ht : ∀ x y z,lt x y = true → lt y z = true → lt x z = true) {x : α} : ∀ {l : List α},(∀ y ∈ l,lt x y = true ∨ lt y x = true) → (l.Pairwise fun a b => lt a b = true) → (insO lt x l).Pairwise fun a b => lt a b = true
 | [],_,_ => by simp [insO]
 | y :: r,h,hp => by
  rw [List.pairwise_cons] at hp
  unfold insO
  split
  ·rename_i hxy
   rw [List.pairwise_cons,List.pairwise_cons]
   refine ⟨fun z hz => ?_,hp⟩
   rcases List.mem_cons.1 hz with e | e
   ·rw [e]; exact hxy
   ·exact ht x y z hxy (hp.1 z e)
  ·rename_i hxy
   rw [List.pairwise_cons]
   refine ⟨fun z hz => ?_,insO_asc ht (fun z hz => h z (List.mem_cons_of_mem _ hz)) hp.2⟩
   have hz' := (insO_perm lt x r).mem_iff.1 hz
   rcases List.mem_cons.1 hz' with e | e
   ·rw [e]; exact (h y (by simp)).resolve_left hxy
   ·exact hp.1 z e
theorem sortO_asc {lt : α → α → Bool} (ht : ∀ x y z,lt x y = true → lt y z = true → lt x z = true) : ∀ {l : List α},aptO lt l = true → (sortO lt l).Pairwise fun a b => lt a b = true
 | [],_ => by simp [sortO]
 | x :: r,h => by
  rw [aptO_iff,List.pairwise_cons] at h
  exact insO_asc ht (fun y hy => h.1 y ((sortO_perm lt r).mem_iff.1 hy)) (sortO_asc ht (aptO_iff.2 h.2))
theorem asc_one {lt : α → α → Bool} (hi : ∀ x,lt x x = false) (ht : ∀ x y z,lt x y = true → lt y z = true → lt x z = true) : ∀ {a b : List α},a.Perm b → (a.Pairwise fun x y => lt x y = true) → (b.Pairwise fun x y => lt x y = true) → a = b
 | [],b,hp,_,_ => (List.nil_perm.1 hp).symm
 | x :: r,[],hp,_,_ => absurd hp.length_eq (by simp)
 | x :: r,y :: q,hp,ha,hb => by
  rw [List.pairwise_cons] at ha hb
  have e : x = y := by
   have h1 : x ∈ y :: q := hp.mem_iff.1 (by simp)
   have h2 : y ∈ x :: r := hp.mem_iff.2 (by simp)
   rcases List.mem_cons.1 h1 with h1 | h1
   ·exact h1
   ·rcases List.mem_cons.1 h2 with h2 | h2
    ·exact h2.symm
    ·have := ht x y x (ha.1 y h2) (hb.1 x h1)
     rw [hi] at this; cases this
  subst e
  rw [asc_one hi ht (List.perm_cons x |>.1 hp) ha.2 hb.2]
end
theorem bL_irr : ∀ l : List UInt8,bLess l l = false
 | [] => rfl
 | x :: r => by simp [bLess,bL_irr r]
theorem bL_trans : ∀ a b c : List UInt8,bLess a b = true → bLess b c = true → bLess a c = true
 | _,[],_,h,_ => by simp [bLess] at h
 | _,_ :: _,[],_,h => by simp [bLess] at h
 | [],_ :: _,_ :: _,_,_ => rfl
 | x :: r,y :: q,z :: s,h1,h2 => by
  simp only [bLess,Bool.or_eq_true,Bool.and_eq_true,decide_eq_true_eq,beq_iff_eq] at h1 h2 ⊢
  rcases h1 with h1 | ⟨rfl,h1⟩
  ·rcases h2 with h2 | ⟨rfl,h2⟩
   ·exact .inl (UInt8.lt_trans h1 h2)
   ·exact .inl h1
  ·rcases h2 with h2 | ⟨rfl,h2⟩
   ·exact .inl h2
   ·exact .inr ⟨rfl,bL_trans r q s h1 h2⟩
theorem bL_tri : ∀ a b : List UInt8,bLess a b = true ∨ a = b ∨ bLess b a = true
 | [],[] => .inr (.inl rfl)
 | [],_ :: _ => .inl rfl
 | _ :: _,[] => .inr (.inr rfl)
 | x :: r,y :: q => by
  simp only [bLess,Bool.or_eq_true,Bool.and_eq_true,decide_eq_true_eq,beq_iff_eq,List.cons.injEq]
  rcases Nat.lt_trichotomy x.toNat y.toNat with h | h | h
  ·exact .inl (.inl (UInt8.lt_iff_toNat_lt.2 h))
  ·have e : x = y := UInt8.toNat_inj.1 h
   subst e
   rcases bL_tri r q with h | h | h
   ·exact .inl (.inr ⟨rfl,h⟩)
   ·exact .inr (.inl ⟨rfl,h⟩)
   ·exact .inr (.inr (.inr ⟨rfl,h⟩))
  ·exact .inr (.inr (.inl (UInt8.lt_iff_toNat_lt.2 h)))
theorem bL_ntrans (a b c : List UInt8) (h1 : bLess a b = false) (h2 : bLess b c = false) : bLess a c = false := by
 cases h : bLess a c with
 | false => rfl
 | true =>
  rcases bL_tri a b with h3 | h3 | h3
  ·rw [h1] at h3; cases h3
  ·subst h3; rw [h2] at h; cases h
  ·have := bL_trans b a c h3 h
   rw [h2] at this; cases this
end Go.TL
namespace Go.TL
def bytesL (s : ByteArray) : List UInt8 := s.data.toList
def textL (l : List UInt8) : ByteArray := ⟨l.toArray⟩
theorem text_bytes (s : ByteArray) : textL (bytesL s) = s := by unfold textL bytesL; simp
theorem bytes_text (l : List UInt8) : bytesL (textL l) = l := by unfold textL bytesL; simp
def sortS (l : List ByteArray) : List ByteArray := ((l.map bytesL).mergeSort fun x y => decide (x ≤ y)).map textL
def compS (l : List ByteArray) : List ByteArray := (Go.Lib.compact (l.map bytesL)).map textL
theorem sortS_len (l : List ByteArray) : (sortS l).length = l.length := by
 unfold sortS
 rw [List.length_map,List.length_mergeSort,List.length_map]
theorem compS_len (l : List ByteArray) : (compS l).length ≤ l.length := by
 unfold compS Go.Lib.compact Go.Lib.compactUpTo
 rw [List.length_map,List.length_map]
 refine Nat.le_trans (List.length_filter_le _ _) ?_
 simp
end Go.TL

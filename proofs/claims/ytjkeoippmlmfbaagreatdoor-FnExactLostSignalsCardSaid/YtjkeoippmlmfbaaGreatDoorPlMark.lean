import Derived.Test.YtjkeoippmlmfbaaGreatDoorPlLib
set_option linter.unusedSimpArgs false
set_option linter.unusedVariables false
namespace Go.TL
section
variable {β γ τ : Type}
def marks (f : Int → β) (w : Nat) (k : Int) (n : Nat) : List β := (List.range n).map fun i => f (k + (w * i : Nat))
theorem marks_length (f : Int → β) (w : Nat) (k : Int) (n : Nat) : (marks f w k n).length = n := by simp [marks]
theorem marks_get (f : Int → β) (w : Nat) (k : Int) (n i : Nat) (h : i < (marks f w k n).length) : (marks f w k n)[i] = f (k + (w * i : Nat)) := by simp [marks]
theorem nth_marks [Inhabited β] {f : Int → β} {w : Nat} {k : Int} {n i : Nat} (h : i < n) : nth (marks f w k n) i = f (k + (w * i : Nat)) := by
  rw [nth_eq (by rw [marks_length]; exact h), marks_get]

theorem nth_set_same [Inhabited β] {l : List β} {i : Nat} {v : β} (h : i < l.length) : nth (l.set i v) i = v := by
  rw [nth_eq (by rw [List.length_set]; exact h), List.getElem_set_self]

theorem mark_loop {step : γ → Option (γ ⊕ τ)} (mk : Int → Int → List β → γ) (w : Nat) (f : Int → β) (n : Nat) (B : Int) (ex : Int → List β → τ)
    (hs : ∀ (i : Nat) (k : Int) (l : List β), i < n → l.length = n → 0 ≤ k → k + w ≤ B → step (mk i k l) = some (.inl (mk (i + 1 : Nat) (k + w) (l.set i (f k)))))
    (he : ∀ k l, l.length = n → step (mk n k l) = some (.inr (ex k l))) (k0 : Int) (l0 : List β) (h0 : l0.length = n) (hk : 0 ≤ k0) (hb : k0 + (w * n : Nat) ≤ B) :
    loopF step (mk 0 k0 l0) = some (ex (k0 + (w * n : Nat)) (marks f w k0 n)) := by
  have key : ∀ (m i : Nat) (l : List β), i + m = n → l.length = n → l.take i = (marks f w k0 n).take i → loopF step (mk i (k0 + (w * i : Nat)) l) = some (ex (k0 + (w * n : Nat)) (marks f w k0 n)) := by
    intro m
    induction m with
    | zero =>
      intro i l h hl ht
      have e : i = n := by omega
      subst e
      have hl' : l = marks f w k0 i := by
        rw [List.take_of_length_le (by omega), List.take_of_length_le (by rw [marks_length]; exact Nat.le_refl _)] at ht
        exact ht
      rw [loop_out (he _ _ hl), hl']
    | succ m ih =>
      intro i l h hl ht
      have hi : i < n := by omega
      have hw : w * (i + 1) ≤ w * n := Nat.mul_le_mul_left w hi
      have hw2 : w * (i + 1) = w * i + w := Nat.mul_succ w i
      rw [loop_on (hs i _ l hi hl (by omega) (by omega))]
      have e : k0 + ((w * i : Nat) : Int) + (w : Int) = k0 + ((w * (i + 1) : Nat) : Int) := by omega
      rw [e]
      refine ih (i + 1) _ (by omega) (by rw [List.length_set]; exact hl) ?_
      rw [List.take_succ_eq_append_getElem (by rw [List.length_set]; omega), List.getElem_set_self, List.take_set_of_le (Nat.le_refl _), ht]
      rw [List.take_succ_eq_append_getElem (by rw [marks_length]; omega), marks_get]
  have := key n 0 l0 (by omega) h0 (by simp)
  simpa using this

theorem held_loop [Inhabited β] {step : γ → Option (γ ⊕ (Unit ⊕ τ))} (mk : Int → Int → γ) (w : Nat) (f : Int → β) (n : Nat) (B : Int) (late : Int → τ) (k0 : Int)
    (hs : ∀ (i : Nat) (k : Int), i < n → nth (marks f w k0 n) i = f k → 0 ≤ k → k + w ≤ B → step (mk i k) = some (.inl (mk (i + 1 : Nat) (k + w))))
    (he : ∀ k, step (mk n k) = some (.inr (.inr (late k)))) (hk : 0 ≤ k0) (hb : k0 + (w * n : Nat) ≤ B) :
    loopF step (mk 0 k0) = some (.inr (late (k0 + (w * n : Nat)))) := by
  have key : ∀ (m i : Nat), i + m = n → loopF step (mk i (k0 + (w * i : Nat))) = some (.inr (late (k0 + (w * n : Nat)))) := by
    intro m
    induction m with
    | zero =>
      intro i h
      have e : i = n := by omega
      subst e
      rw [loop_out (he _)]
    | succ m ih =>
      intro i h
      have hi : i < n := by omega
      have hw : w * (i + 1) ≤ w * n := Nat.mul_le_mul_left w hi
      have hw2 : w * (i + 1) = w * i + w := Nat.mul_succ w i
      rw [loop_on (hs i _ hi (nth_marks hi) (by omega) (by omega))]
      have e : k0 + ((w * i : Nat) : Int) + (w : Int) = k0 + ((w * (i + 1) : Nat) : Int) := by omega
      rw [e]
      exact ih (i + 1) (by omega)
  have := key n 0 (by omega)
  simpa using this
end
end Go.TL

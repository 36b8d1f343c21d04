/- For every whole number NewQueue of the program answers as the reference does, in memory of its own; no condition. -/
import Derived.Test.YtmmhgioeoikgbaaPFnExactNewQueuex4
namespace Go.Proofs.Ytmmhgioeoikgbaa.Pure
open Go.RowKit Go.Proofs.Ytmmhgioeoikgbaa.PFnExactNewQueue Go.Proofs.YtmmhgioeoikgbaaW.PrintWords Go.Proofs.YtmmhgioeoikgbaaW.PrintLast

theorem in_some (a b c : Int) : spec_l1In.f a b c = some (decide (b ≤ a ∧ a ≤ c)) := by
  unfold spec_l1In.f
  by_cases h1 : a ≥ b
  · rw [if_pos h1]; have : b ≤ a := h1; simp [this]
  · rw [if_neg h1]; have : ¬ b ≤ a := h1; simp [this]
theorem in_eq (a b c : Int) : impl_in.f a b c = spec_l1In.f a b c := rfl
theorem eq_nil (k : Nat) (a : Int) : laws_eqQueue.f (k + 1) a [] 0 [] [] a [] 0 [] [] = some true := by
  simp [laws_eqQueue.f, laws_eqStringS.f, laws_eqStringS.l0, laws_eqPacketS.f, laws_eqPacketS.l0]
theorem mark_nil (k : Nat) (a : Int) : laws_markQueue.f (k + 1) a [] 0 [] [] 1 = some (1, [], [], []) := by
  simp [laws_markQueue.f, laws_markStringS.f, laws_markStringS.l0, laws_markPacketS.f, laws_markPacketS.l0]
theorem held_nil (k : Nat) (a : Int) : laws_heldQueue.f (k + 1) a [] 0 [] [] 1 = some 1 := by
  simp [laws_heldQueue.f, laws_heldStringS.f, laws_heldStringS.l0, laws_heldPacketS.f, laws_heldPacketS.l0]
theorem FnExactNewQueue : laws_FnExactNewQueue.Pure := by
  intro a0 h0
  refine ⟨3, ?_⟩
  have key : ∃ n : Int, ∃ b : Bool, spec_NewQueue.f a0 = some (n, [], 0, [], [], b) ∧ impl_NewQueue.f a0 = some (n, [], 0, [], [], b) := by
    unfold spec_NewQueue.f impl_NewQueue.f
    rw [in_eq, in_some]
    simp only [Option.bind_some]
    by_cases h : 1 ≤ a0 ∧ a0 ≤ 10
    · have e : decide (1 ≤ a0 ∧ a0 ≤ 10) = true := decide_eq_true h
      rw [e]; exact ⟨_, _, rfl, rfl⟩
    · have e : decide (1 ≤ a0 ∧ a0 ≤ 10) = false := decide_eq_false h
      rw [e]; exact ⟨_, _, rfl, rfl⟩
  obtain ⟨n, b, hs, hi⟩ := key
  unfold laws_FnExactNewQueue.f
  rw [hs, hi]
  simp only [Option.bind_some]
  rw [eq_nil]
  simp only [Option.bind_some, if_true]
  have hb : (b != b) = false := by cases b <;> rfl
  rw [hb]
  simp only [laws_FnExactNewQueue.j0, Bool.false_eq_true, if_false]
  rw [mark_nil, hi]
  simp only [Option.bind_some]
  rw [held_nil, eq_nil]
  simp only [Option.bind_some, hb, laws_FnExactNewQueue.j1, Bool.false_eq_true, if_false, if_true]
  rw [held_nil]
  simp

end Go.Proofs.Ytmmhgioeoikgbaa.Pure

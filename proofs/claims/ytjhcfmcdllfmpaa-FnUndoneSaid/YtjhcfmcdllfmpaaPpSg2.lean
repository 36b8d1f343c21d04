import Derived.Test.YtjhcfmcdllfmpaaPpSg1
set_option linter.unusedSimpArgs false
set_option linter.unusedVariables false
set_option linter.unusedVariables false
set_option linter.unusedSimpArgs false
namespace Go.TL

def zeroSg : SagaT := ⟨[], [], 0, false⟩
def stepP (s : SagaT) : SagaT × Bool :=
  if s.Undoing = true then (if s.Done = 0 then (s, false) else (⟨movedP s.Accounts (backP (nth s.Moves (s.Done - 1).toNat)), s.Moves, s.Done - 1, true⟩, true))
  else if s.Done = (s.Moves.length : Int) then (s, false)
  else if movedOk s.Accounts (nth s.Moves s.Done.toNat) = true then (⟨movedP s.Accounts (nth s.Moves s.Done.toNat), s.Moves, s.Done + 1, false⟩, true)
  else (⟨s.Accounts, s.Moves, s.Done, true⟩, true)
theorem GoodSg.move {s : SagaT} (h : GoodSg s) {d : Nat} (hd : d < s.Moves.length) : moveP (nth s.Moves d) s.Accounts.length = true := h.moves _ (nth_mem hd)
theorem take_rev {l : List MoveT} {d : Nat} (hd : d < l.length) : (l.take (d + 1)).reverse = nth l d :: (l.take d).reverse := by
  rw [List.take_add_one, List.getElem?_eq_getElem hd, nth_eq hd]; simp
theorem GoodSg.undo1 {s : SagaT} (h : GoodSg s) {d : Nat} (hd : s.Done = ((d + 1 : Nat) : Int)) : movedOk s.Accounts (backP (nth s.Moves d)) = true ∧ (undoP (s.Moves.take d).reverse (movedP s.Accounts (backP (nth s.Moves d)))).isSome = true := by
  have hu := h.undo
  have hl := h.done.2
  rw [hd, Int.toNat_natCast, take_rev (by omega)] at hu
  unfold undoP at hu
  by_cases hk : movedOk s.Accounts (backP (nth s.Moves d)) = true
  · rw [if_pos hk] at hu; exact ⟨hk, hu⟩
  · rw [if_neg hk] at hu; cases hu
theorem step_good {s : SagaT} (h : GoodSg s) : GoodSg (stepP s).1 := by
  have hd0 := h.done
  unfold stepP
  by_cases hu : s.Undoing = true
  · rw [if_pos hu]
    by_cases h0 : s.Done = 0
    · rw [if_pos h0]; exact h
    · rw [if_neg h0]
      obtain ⟨d, hd⟩ : ∃ d : Nat, s.Done = ((d + 1 : Nat) : Int) := ⟨(s.Done - 1).toNat, by omega⟩
      obtain ⟨k1, k2⟩ := h.undo1 hd
      have e : s.Done - 1 = (d : Int) := by omega
      rw [e, Int.toNat_natCast]
      have hm := moveP_back (h.move (show d < s.Moves.length by omega))
      exact ⟨movedP_accs hm h.accs k1, by simpa [movedP_len] using h.len, h.mlen, ⟨by simp only; omega, by simp only; omega⟩, fun m hm' => by simpa [movedP_len] using h.moves m hm', by simpa using k2⟩
  · rw [if_neg hu]
    by_cases h0 : s.Done = (s.Moves.length : Int)
    · rw [if_pos h0]; exact h
    · rw [if_neg h0]
      obtain ⟨d, hd⟩ : ∃ d : Nat, s.Done = (d : Int) := ⟨s.Done.toNat, by omega⟩
      rw [hd, Int.toNat_natCast]
      have hm := h.move (show d < s.Moves.length by omega)
      by_cases hk : movedOk s.Accounts (nth s.Moves d) = true
      · rw [if_pos hk]
        refine ⟨movedP_accs hm h.accs hk, by simpa [movedP_len] using h.len, h.mlen, ⟨by simp only; omega, by simp only; omega⟩, fun m hm' => by simpa [movedP_len] using h.moves m hm', ?_⟩
        have e : ((d : Int) + 1).toNat = d + 1 := by omega
        simp only [e]
        rw [take_rev (by omega)]
        unfold undoP
        rw [if_pos (movedOk_back hm h.accs), movedP_back hm]
        have := h.undo
        rwa [hd, Int.toNat_natCast] at this
      · rw [if_neg hk]
        exact ⟨h.accs, h.len, h.mlen, by simp only; omega, h.moves, by have := h.undo; rwa [hd] at this⟩
theorem step_moves (s : SagaT) : (stepP s).1.Moves = s.Moves ∧ (stepP s).1.Accounts.length = s.Accounts.length := by
  unfold stepP
  split
  · split <;> simp [movedP_len]
  · split
    · simp
    · split <;> simp [movedP_len]
theorem spec_step_eq (s : SagaT) (h : GoodSg s) : spec_l9Step_ww s = some (stepP s) := by
  have hd0 := h.done
  have hl := h.len
  have hml := h.mlen
  unfold spec_l9Step_ww stepP
  cases hu : s.Undoing
  · simp only [Bool.false_eq_true, if_false]
    by_cases h0 : s.Done = (s.Moves.length : Int)
    · rw [if_pos (by simpa using h0), if_pos h0]
    · rw [if_neg (by simpa using h0), if_neg h0, guard_pos (by omega), spec_l9Do_eq _ _ (by omega) (h.move (by omega)) h.accs]
      simp only [Option.bind_some]
      cases movedOk s.Accounts (nth s.Moves s.Done.toNat)
      · simp
      · simp [wI_id (show -9223372036854775808 ≤ s.Done + 1 ∧ s.Done + 1 ≤ 9223372036854775807 by omega)]
  · simp only [if_true]
    by_cases h0 : s.Done = 0
    · rw [if_pos (by simpa using h0), if_pos h0]
    · have e := spec_l9Do_eq s.Accounts (backP (nth s.Moves (s.Done - 1).toNat)) (by omega) (moveP_back (h.move (by omega))) h.accs
      unfold backP at e
      unfold spec_l9Back
      rw [if_neg (by simpa using h0), if_neg h0, wI_id (by omega), guard_pos (by omega)]
      simp only [Option.bind_some]
      rw [e]
      rfl
theorem impl_step_eq (s : SagaT) (h : GoodSg s) : impl_Saga_step_o s = some ((stepP s).2, (stepP s).1) := by
  have hd0 := h.done
  have hl := h.len
  have hml := h.mlen
  unfold impl_Saga_step_o stepP
  cases hu : s.Undoing
  · simp only [Bool.false_eq_true, if_false, Bool.not_false, if_true, Option.bind_some]
    by_cases h0 : s.Done = (s.Moves.length : Int)
    · rw [if_pos (by simpa using h0), if_pos h0]
    · rw [if_neg (by simpa using h0), if_neg h0, guard_pos (by omega), impl_moved_eq _ _ (by omega) (h.move (by omega)) h.accs]
      simp only [Option.bind_some]
      cases movedOk s.Accounts (nth s.Moves s.Done.toNat)
      · simp
      · simp [wI_id (show -9223372036854775808 ≤ s.Done + 1 ∧ s.Done + 1 ≤ 9223372036854775807 by omega)]
  · simp only [if_true, Bool.not_true, Bool.false_eq_true, if_false]
    by_cases h0 : s.Done = 0
    · simp [h0]
    · have e := impl_moved_eq s.Accounts (backP (nth s.Moves (s.Done - 1).toNat)) (by omega) (moveP_back (h.move (by omega))) h.accs
      unfold backP at e
      unfold impl_back
      rw [if_neg (show ¬ ((s.Done == 0) = true) by simpa using h0), if_neg h0]
      simp only [Option.bind_some, Bool.false_eq_true, if_false]
      rw [wI_id (by omega), guard_pos (by omega)]
      rw [e]
      rfl
def stepSg (s : SagaT) : SagaT × Bool := if goodSg s = true ∧ (stepP s).2 = true then ((stepP s).1, true) else (zeroSg, false)
theorem own_eq (s : SagaT) (h1 : s.Accounts.length ≤ 1000000) (h2 : s.Moves.length ≤ 1000000) : spec_l9Own s = some s := by
  unfold spec_l9Own
  rw [guard_pos (by omega), guard_pos (by omega)]
  rfl
theorem cloneSg_eq (s : SagaT) (h1 : s.Accounts.length ≤ 1000000) (h2 : s.Moves.length ≤ 1000000) : impl_cloneSaga s = some s := by
  unfold impl_cloneSaga slices_Clone_int slices_Clone_impl_Move
  rw [guard_pos (by omega), guard_pos (by omega)]
  rfl
theorem GoodSg.small {s : SagaT} (h : GoodSg s) : s.Accounts.length ≤ 8 ∧ s.Moves.length ≤ 20 := ⟨h.len.2, h.mlen⟩
theorem spec_StepSaga_eq (s : SagaT) (h1 : s.Accounts.length ≤ 9223372036854775807) (h2 : s.Moves.length ≤ 9223372036854775807) : spec_StepSaga s = some (stepSg s) := by
  unfold spec_StepSaga stepSg
  rw [spec_GoodSaga_eq s h1 h2]
  simp only [Option.bind_some]
  cases hg : goodSg s
  · simp; rfl
  have h := goodSg_iff.1 hg
  have hs := h.small
  simp only [Bool.not_true, Bool.false_eq_true, if_false, true_and]
  rw [own_eq s (by omega) (by omega)]
  simp only [Option.bind_some]
  rw [spec_step_eq s h]
  simp only [Option.bind_some]
  cases hb : (stepP s).2
  · simp; rfl
  have hm := (step_moves s).1
  have e : (⟨(stepP s).1.Accounts, s.Moves, (stepP s).1.Done, (stepP s).1.Undoing⟩ : SagaT) = (stepP s).1 := by rw [← hm]
  rw [e]
  have hg2 := step_good h
  have hs2 := hg2.small
  simp only [Bool.not_true, Bool.false_eq_true, if_false, spec_GoodSaga_eq (stepP s).1 (by omega) (by omega), goodSg_iff.2 hg2, Option.bind_some, if_true]
theorem impl_StepSaga_eq (s : SagaT) (h1 : s.Accounts.length ≤ 9223372036854775807) (h2 : s.Moves.length ≤ 9223372036854775807) : impl_StepSaga s = some (stepSg s) := by
  unfold impl_StepSaga impl_changedSaga_impl_Saga_step stepSg
  rw [impl_GoodSaga_eq s h1 h2]
  simp only [Option.bind_some]
  cases hg : goodSg s
  · simp; rfl
  have h := goodSg_iff.1 hg
  have hs := h.small
  simp only [Bool.not_true, Bool.false_eq_true, if_false, true_and]
  rw [cloneSg_eq s (by omega) (by omega)]
  simp only [Option.bind_some]
  rw [impl_step_eq s h]
  simp only [Option.bind_some]
  cases hb : (stepP s).2
  · simp; rfl
  have hm := (step_moves s).1
  have e : (⟨(stepP s).1.Accounts, s.Moves, (stepP s).1.Done, (stepP s).1.Undoing⟩ : SagaT) = (stepP s).1 := by rw [← hm]
  rw [e]
  simp
theorem stepSg_small (s : SagaT) : (stepSg s).1.Accounts.length ≤ 8 ∧ (stepSg s).1.Moves.length ≤ 20 := by
  unfold stepSg
  split
  · rename_i h
    exact (step_good (goodSg_iff.1 h.1)).small
  · simp [zeroSg]

end Go.TL

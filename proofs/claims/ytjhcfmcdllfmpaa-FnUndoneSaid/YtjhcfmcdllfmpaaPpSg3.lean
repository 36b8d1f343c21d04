import Derived.Test.YtjhcfmcdllfmpaaPpSg2
set_option linter.unusedSimpArgs false
set_option linter.unusedVariables false
set_option linter.unusedVariables false
set_option linter.unusedSimpArgs false
namespace Go.TL

def canFail (s : SagaT) : Bool := !s.Undoing && decide (s.Done ≠ (s.Moves.length : Int))
def nextP (f : Int) (s : SagaT) (n : Int) : SagaT × Bool := if (decide (n = f) && canFail s) = true then (⟨s.Accounts, s.Moves, s.Done, true⟩, true) else stepP s
def mu (s : SagaT) : Nat := if s.Undoing = true then s.Done.toNat else 2 * s.Moves.length + 1 - s.Done.toNat
def runP : Nat → Int → SagaT → Int → SagaT × Int
  | 0, _, s, n => (s, n)
  | k + 1, f, s, n => if (nextP f s n).2 = true then runP k f (nextP f s n).1 (n + 1) else (s, n)
theorem fail_good {s : SagaT} (h : GoodSg s) : GoodSg ⟨s.Accounts, s.Moves, s.Done, true⟩ := ⟨h.accs, h.len, h.mlen, h.done, h.moves, h.undo⟩
theorem next_good {s : SagaT} {f n : Int} (h : GoodSg s) : GoodSg (nextP f s n).1 := by
  unfold nextP
  split
  · exact fail_good h
  · exact step_good h
theorem next_moves (s : SagaT) (f n : Int) : (nextP f s n).1.Moves = s.Moves := by
  unfold nextP
  split
  · rfl
  · exact (step_moves s).1
theorem step_mu {s : SagaT} (h : GoodSg s) (hb : (stepP s).2 = true) : mu (stepP s).1 < mu s := by
  have hd := h.done
  unfold stepP at hb ⊢
  unfold mu
  cases hu : s.Undoing
  · rw [hu] at hb
    simp only [Bool.false_eq_true, if_false] at hb ⊢
    by_cases h0 : s.Done = (s.Moves.length : Int)
    · rw [if_pos h0] at hb; cases hb
    · rw [if_neg h0]
      split
      · simp only [Bool.false_eq_true, if_false]; omega
      · simp only [if_true]; omega
  · rw [hu] at hb
    simp only [if_true] at hb ⊢
    by_cases h0 : s.Done = 0
    · rw [if_pos h0] at hb; cases hb
    · rw [if_neg h0]
      simp only [if_true]; omega
theorem next_mu {s : SagaT} {f n : Int} (h : GoodSg s) (hb : (nextP f s n).2 = true) : mu (nextP f s n).1 < mu s := by
  have hd := h.done
  unfold nextP at hb ⊢
  by_cases hc : (decide (n = f) && canFail s) = true
  · rw [if_pos hc]
    unfold canFail at hc
    simp only [Bool.and_eq_true, Bool.not_eq_true', decide_eq_true_eq] at hc
    unfold mu
    rw [if_pos rfl, if_neg (by simp [hc.2.1])]
    simp only
    omega
  · rw [if_neg hc] at hb ⊢
    exact step_mu h hb
theorem mu_le {s : SagaT} (h : GoodSg s) : mu s ≤ 41 := by
  have := h.done; have := h.mlen
  unfold mu; split <;> omega
theorem runP_good : ∀ (k : Nat) (f : Int) (s : SagaT) (n : Int), GoodSg s → GoodSg (runP k f s n).1
  | 0, _, s, _, h => h
  | k + 1, f, s, n, h => by
    unfold runP
    split
    · exact runP_good k f _ _ (next_good h)
    · exact h
theorem spec_FailSaga_eq (s : SagaT) (h : GoodSg s) : spec_FailSaga s = some (if canFail s = true then (⟨s.Accounts, s.Moves, s.Done, true⟩, true) else (zeroSg, false)) := by
  have hs := h.small
  unfold spec_FailSaga canFail
  rw [spec_GoodSaga_eq s (by omega) (by omega), goodSg_iff.2 h]
  simp only [Option.bind_some, Bool.not_true, Bool.false_eq_true, if_false]
  cases hu : s.Undoing
  · simp only [Bool.false_eq_true, if_false, Option.bind_some, Bool.not_false, Bool.true_and]
    by_cases hd : s.Done = (s.Moves.length : Int)
    · rw [if_pos (by simpa using hd), if_neg (by simp [hd])]; rfl
    · rw [if_neg (by simpa using hd), if_pos (by simp [hd]), own_eq s (by omega) (by omega)]; rfl
  · simp; rfl
theorem impl_fail_eq (s : SagaT) : impl_Saga_fail_o s = some (if canFail s = true then (true, ⟨s.Accounts, s.Moves, s.Done, true⟩) else (false, s)) := by
  unfold impl_Saga_fail_o canFail
  cases hu : s.Undoing
  · simp only [Bool.false_eq_true, if_false, Option.bind_some, Bool.not_false, Bool.true_and]
    by_cases hd : s.Done = (s.Moves.length : Int)
    · rw [if_pos (by simpa using hd), if_neg (by simp [hd])]
    · rw [if_neg (by simpa using hd), if_pos (by simp [hd])]
  · simp
theorem step_false {s : SagaT} (hb : (stepP s).2 = false) : (stepP s).1 = s := by
  unfold stepP at hb ⊢
  split
  · rename_i hu
    rw [if_pos hu] at hb
    split
    · rfl
    · rename_i h0; rw [if_neg h0] at hb; cases hb
  · rename_i hu
    rw [if_neg hu] at hb
    split
    · rfl
    · rename_i h0
      rw [if_neg h0] at hb
      split at hb <;> cases hb
theorem impl_round (f : Int) (a s : SagaT) (n : Int) (h : GoodSg s) (ha : a.Moves = s.Moves) (hn : 0 ≤ n ∧ n ≤ 1000) : impl_RunSaga_c1_ooo_L1 f a ⟨s.Done, s.Undoing, n, s.Accounts⟩ =
    if (nextP f s n).2 = true then some (.inl ⟨(nextP f s n).1.Done, (nextP f s n).1.Undoing, n + 1, (nextP f s n).1.Accounts⟩) else some (.inr ⟨s.Done, s.Undoing, n, s.Accounts⟩) := by
  have e : (⟨s.Accounts, a.Moves, s.Done, s.Undoing⟩ : SagaT) = s := by rw [ha]
  have hw : wI (n + 1) = n + 1 := wI_id (by omega)
  unfold impl_RunSaga_c1_ooo_L1 nextP
  simp only [e, impl_fail_eq s, impl_step_eq s h, Option.bind_some, hw]
  by_cases hf : n = f
  · rw [if_pos (by simpa using hf), decide_eq_true hf, Bool.true_and]
    cases canFail s
    · simp only [Bool.false_eq_true, if_false, e, impl_step_eq s h, Option.bind_some]
      cases hb : (stepP s).2
      · simp [step_false hb]
      · simp
    · simp
  · rw [if_neg (by simpa using hf), decide_eq_false hf]
    simp only [Bool.false_and, Bool.false_eq_true, if_false]
    cases hb : (stepP s).2
    · simp [step_false hb]
    · simp
theorem runP_moves : ∀ (k : Nat) (f : Int) (s : SagaT) (n : Int), (runP k f s n).1.Moves = s.Moves
  | 0, _, _, _ => rfl
  | k + 1, f, s, n => by
    unfold runP
    split
    · rw [runP_moves k f _ _, next_moves]
    · rfl
theorem impl_run_loop (f : Int) (a : SagaT) : ∀ (k : Nat) (s : SagaT) (n : Int), GoodSg s → a.Moves = s.Moves → mu s < k → 0 ≤ n → n + mu s ≤ 1000 →
    loopF (impl_RunSaga_c1_ooo_L1 f a) ⟨s.Done, s.Undoing, n, s.Accounts⟩ = some ⟨(runP k f s n).1.Done, (runP k f s n).1.Undoing, (runP k f s n).2, (runP k f s n).1.Accounts⟩ := by
  intro k
  induction k with
  | zero => intro s n _ _ h; omega
  | succ k ih =>
    intro s n h ha hm h0 h1
    have hr := impl_round f a s n h ha ⟨h0, by omega⟩
    unfold runP
    by_cases hb : (nextP f s n).2 = true
    · rw [if_pos hb] at hr ⊢
      have := next_mu h hb
      rw [loop_on hr]
      exact ih _ _ (next_good h) (by rw [next_moves]; exact ha) (by omega) (by omega) (by omega)
    · rw [if_neg hb] at hr ⊢
      exact loop_out hr
def runSg (s : SagaT) (f : Int) : SagaT × Int × Bool := if goodSg s = true then ((runP 50 f s 0).1, (runP 50 f s 0).2, true) else (zeroSg, 0, false)
theorem impl_RunSaga_eq (s : SagaT) (f : Int) (h1 : s.Accounts.length ≤ 9223372036854775807) (h2 : s.Moves.length ≤ 9223372036854775807) : impl_RunSaga s f = some (runSg s f) := by
  unfold impl_RunSaga impl_changedSaga_impl_RunSaga_c1oo runSg
  rw [impl_GoodSaga_eq s h1 h2]
  simp only [Option.bind_some]
  cases hg : goodSg s
  · simp; rfl
  have h := goodSg_iff.1 hg
  have hs := h.small
  have hm := mu_le h
  rw [if_neg (by simp), cloneSg_eq s (by omega) (by omega)]
  simp only [Option.bind_some]
  unfold impl_RunSaga_c1_ooo
  rw [impl_run_loop f s 50 s 0 h rfl (by omega) (by omega) (by omega)]
  simp only [Option.bind_some, Bool.not_true, Bool.false_eq_true, if_false, if_true]
  rw [← runP_moves 50 f s 0]
end Go.TL

import Derived.Test.YtjhcfmcdllfmpaaPpSg3
import Derived.Test.YtjhcfmcdllfmpaaG33PpR1
set_option linter.unusedSimpArgs false
set_option linter.unusedVariables false
set_option linter.unusedVariables false
set_option linter.unusedSimpArgs false
set_option maxRecDepth 4000
namespace Go.TL

def sumI (l : List Int) : Int := l.foldl (· + ·) 0
theorem foldl_add : ∀ (l : List Int) (a : Int), l.foldl (· + ·) a = a + l.foldl (· + ·) 0
  | [], a => by simp
  | x :: r, a => by
    simp only [List.foldl_cons, Int.zero_add]
    rw [foldl_add r (a + x), foldl_add r x]; omega
theorem sumI_cons (x : Int) (r : List Int) : sumI (x :: r) = x + sumI r := by
  unfold sumI; simp only [List.foldl_cons, Int.zero_add]; exact foldl_add r x
theorem sumI_set : ∀ (l : List Int) (i : Nat) (v : Int), i < l.length → sumI (l.set i v) = sumI l + v - nth l i
  | [], i, v, h => by simp at h
  | x :: r, 0, v, h => by simp only [List.set_cons_zero, sumI_cons]; simp only [nth, List.getD_cons_zero]; omega
  | x :: r, i + 1, v, h => by
    have := sumI_set r i v (by simpa using h)
    simp only [List.set_cons_succ, sumI_cons, this]
    have e : nth (x :: r) (i + 1) = nth r i := by simp [nth]
    rw [e]; omega
theorem moved_sum {l : List Int} {m : MoveT} (h : moveP m l.length = true) : sumI (movedP l m) = sumI l := by
  obtain ⟨a, b, c, d⟩ := moveP_iff h
  unfold movedP
  rw [sumI_set _ _ _ (by simp; omega), sumI_set _ _ _ (by omega), nth_set_ne (by omega)]
  omega
theorem step_sum {s : SagaT} (h : GoodSg s) : sumI (stepP s).1.Accounts = sumI s.Accounts := by
  have hd0 := h.done
  unfold stepP
  split
  · split
    · rfl
    · exact moved_sum (moveP_back (h.move (by omega)))
  · split
    · rfl
    · split
      · exact moved_sum (h.move (by omega))
      · rfl
theorem next_sum {s : SagaT} {f n : Int} (h : GoodSg s) : sumI (nextP f s n).1.Accounts = sumI s.Accounts := by
  unfold nextP
  split
  · rfl
  · exact step_sum h
theorem run_sum : ∀ (k : Nat) (f : Int) (s : SagaT) (n : Int), GoodSg s → sumI (runP k f s n).1.Accounts = sumI s.Accounts
  | 0, _, s, _, h => rfl
  | k + 1, f, s, n, h => by
    unfold runP
    split
    · rw [run_sum k f _ _ (next_good h), next_sum h]
    · rfl
/-- What all is undone to. -/
def fromP (s : SagaT) : Option (List Int) := undoP (s.Moves.take s.Done.toNat).reverse s.Accounts
theorem step_from {s : SagaT} (h : GoodSg s) : fromP (stepP s).1 = fromP s := by
  have hd0 := h.done
  unfold stepP
  by_cases hu : s.Undoing = true
  · rw [if_pos hu]
    by_cases h0 : s.Done = 0
    · rw [if_pos h0]
    · rw [if_neg h0]
      obtain ⟨d, hd⟩ : ∃ d : Nat, s.Done = ((d + 1 : Nat) : Int) := ⟨(s.Done - 1).toNat, by omega⟩
      obtain ⟨k1, k2⟩ := h.undo1 hd
      have e : s.Done - 1 = (d : Int) := by omega
      unfold fromP
      rw [e, hd, Int.toNat_natCast, Int.toNat_natCast, take_rev (by omega)]
      unfold undoP
      rw [if_pos k1]
      cases hq : (List.take d s.Moves).reverse <;> rfl
  · rw [if_neg hu]
    by_cases h0 : s.Done = (s.Moves.length : Int)
    · rw [if_pos h0]
    · rw [if_neg h0]
      obtain ⟨d, hd⟩ : ∃ d : Nat, s.Done = (d : Int) := ⟨s.Done.toNat, by omega⟩
      rw [hd, Int.toNat_natCast]
      have hm := h.move (show d < s.Moves.length by omega)
      by_cases hk : movedOk s.Accounts (nth s.Moves d) = true
      · rw [if_pos hk]
        have e : ((d : Int) + 1).toNat = d + 1 := by omega
        unfold fromP
        simp only [e, hd, Int.toNat_natCast]
        rw [take_rev (by omega)]
        conv => lhs; unfold undoP
        rw [if_pos (movedOk_back hm h.accs), movedP_back hm]
      · rw [if_neg hk]; unfold fromP; simp only [hd]
theorem next_from {s : SagaT} {f n : Int} (h : GoodSg s) : fromP (nextP f s n).1 = fromP s := by
  unfold nextP
  split
  · rfl
  · exact step_from h
theorem run_from : ∀ (k : Nat) (f : Int) (s : SagaT) (n : Int), GoodSg s → fromP (runP k f s n).1 = fromP s
  | 0, _, s, _, h => rfl
  | k + 1, f, s, n, h => by
    unfold runP
    split
    · rw [run_from k f _ _ (next_good h), next_from h]
    · rfl
theorem next_stop {s : SagaT} {f n : Int} (h : (nextP f s n).2 = false) : (stepP s).2 = false := by
  unfold nextP at h
  split at h
  · cases h
  · exact h
theorem run_end : ∀ (k : Nat) (f : Int) (s : SagaT) (n : Int), GoodSg s → mu s < k → (stepP (runP k f s n).1).2 = false ∧ n ≤ (runP k f s n).2 ∧ (runP k f s n).2 ≤ n + mu s
  | 0, _, s, _, h, hm => by omega
  | k + 1, f, s, n, h, hm => by
    unfold runP
    by_cases hb : (nextP f s n).2 = true
    · rw [if_pos hb]
      have := next_mu h hb
      obtain ⟨a, b, c⟩ := run_end k f _ (n + 1) (next_good h) (by omega : mu (nextP f s n).1 < k)
      exact ⟨a, by omega, by omega⟩
    · rw [if_neg hb]
      exact ⟨next_stop (by simpa using hb), by simp only; omega, by simp only; omega⟩
theorem stop_iff {s : SagaT} (h : (stepP s).2 = false) : (s.Undoing = true ∧ s.Done = 0) ∨ (s.Undoing = false ∧ s.Done = (s.Moves.length : Int)) := by
  unfold stepP at h
  cases hu : s.Undoing
  · rw [hu] at h
    simp only [Bool.false_eq_true, if_false] at h
    right
    refine ⟨rfl, ?_⟩
    split at h
    · assumption
    · split at h <;> cases h
  · rw [hu] at h
    simp only [if_true] at h
    left
    refine ⟨rfl, ?_⟩
    split at h
    · assumption
    · cases h

def newSg (a : List Int) (l : List MoveT) : SagaT × Bool := if goodSg ⟨a, l, 0, false⟩ = true then (⟨a, l, 0, false⟩, true) else (zeroSg, false)
theorem spec_NewSaga_eq (a : List Int) (l : List MoveT) (h1 : a.length ≤ 1000000) (h2 : l.length ≤ 1000000) : spec_NewSaga a l = some (newSg a l) := by
  unfold spec_NewSaga newSg
  rw [spec_GoodSaga_eq _ (by simp only; omega) (by simp only; omega)]
  simp only [Option.bind_some]
  cases goodSg ⟨a, l, 0, false⟩
  · simp; rfl
  · rw [own_eq _ h1 h2]; simp
theorem impl_NewSaga_eq (a : List Int) (l : List MoveT) (h1 : a.length ≤ 1000000) (h2 : l.length ≤ 1000000) : impl_NewSaga a l = some (newSg a l) := by
  unfold impl_NewSaga newSg
  rw [impl_GoodSaga_eq _ (by simp only; omega) (by simp only; omega)]
  simp only [Option.bind_some]
  cases goodSg ⟨a, l, 0, false⟩
  · simp; rfl
  · rw [cloneSg_eq _ h1 h2]; simp
def failSg (s : SagaT) : SagaT × Bool := if goodSg s = true ∧ canFail s = true then (⟨s.Accounts, s.Moves, s.Done, true⟩, true) else (zeroSg, false)
theorem spec_Fail_eq (s : SagaT) (h1 : s.Accounts.length ≤ 1000000) (h2 : s.Moves.length ≤ 1000000) : spec_FailSaga s = some (failSg s) := by
  unfold failSg
  cases hg : goodSg s
  · unfold spec_FailSaga
    rw [spec_GoodSaga_eq s (by omega) (by omega), hg]
    simp; rfl
  · rw [spec_FailSaga_eq s (goodSg_iff.1 hg)]; simp
theorem impl_IsOver_eq (s : SagaT) (h1 : s.Accounts.length ≤ 1000000) (h2 : s.Moves.length ≤ 1000000) (hg : goodSg s = true) :
    impl_IsOver s = some ((!s.Undoing && decide (s.Done = (s.Moves.length : Int))) || (s.Undoing && decide (s.Done = 0)), (!s.Undoing && decide (s.Done = (s.Moves.length : Int))), true) := by
  unfold impl_IsOver
  rw [impl_GoodSaga_eq s (by omega) (by omega), hg]
  simp only [Option.bind_some, Bool.not_true, Bool.false_eq_true, if_false]
  cases hu : s.Undoing
  · by_cases hd : s.Done = (s.Moves.length : Int) <;> simp [hd]
  · by_cases hd : s.Done = 0 <;> simp [hd]
theorem sum_bound : ∀ (l : List Int), accs l → 0 ≤ sumI l ∧ sumI l ≤ 1000000 * (l.length : Int)
  | [], _ => by simp [sumI]
  | x :: r, h => by
    obtain ⟨a, b⟩ := sum_bound r fun y hy => h y (by simp [hy])
    have := h x (by simp)
    rw [sumI_cons]
    simp only [List.length_cons]
    omega
theorem sum_take {l : List Int} {i : Nat} (h : i < l.length) : sumI (l.take (i + 1)) = sumI (l.take i) + nth l i := by
  rw [List.take_add_one, List.getElem?_eq_getElem h, nth_eq h]
  show sumI (l.take i ++ [l[i]]) = _
  unfold sumI
  rw [List.foldl_append]; rfl
theorem impl_SumIn_eq (s : SagaT) (hg : goodSg s = true) : impl_SumIn s = some (sumI s.Accounts, true) := by
  have h := goodSg_iff.1 hg
  have hs := h.small
  unfold impl_SumIn
  rw [impl_GoodSaga_eq s (by omega) (by omega), hg]
  simp only [Option.bind_some, Bool.not_true, Bool.false_eq_true, if_false]
  have key : loopF (impl_SumIn_L1 s) ⟨0, 0⟩ = some ⟨sumI s.Accounts⟩ := by
    refine loop_eq (step := impl_SumIn_L1 s) (inv := fun g : impl_SumIn_G1 => 0 ≤ g.t13 ∧ g.t13 ≤ s.Accounts.length ∧ g.t4 = sumI (s.Accounts.take g.t13.toNat)) (fun g => s.Accounts.length - g.t13.toNat) (fun _ => (⟨sumI s.Accounts⟩ : impl_SumIn_P1_0)) (fun g hg => ?_) (s := ⟨0, 0⟩) ⟨by simp, by simp, by simp [sumI]⟩
    obtain ⟨t4, t13⟩ := g
    obtain ⟨a, b, c⟩ := hg
    simp only at a b c
    unfold impl_SumIn_L1
    by_cases ht : t13 < ((s.Accounts.length : Nat) : Int)
    · left
      simp only
      rw [if_pos (decide_eq_true ht), guard_pos ⟨a, ht⟩]
      have e := sum_take (l := s.Accounts) (i := t13.toNat) (by omega)
      have hb := sum_bound (s.Accounts.take (t13.toNat + 1)) fun y hy => h.accs y (List.mem_of_mem_take hy)
      have hl : (s.Accounts.take (t13.toNat + 1)).length ≤ 8 := by simp; omega
      have e2 : wI (t4 + nth s.Accounts t13.toNat) = sumI (s.Accounts.take (t13.toNat + 1)) := by rw [wI_id (by omega)]; omega
      have e3 : wI (t13 + 1) = t13 + 1 := wI_id (by omega)
      refine ⟨_, rfl, ⟨by simp only; omega, by simp only; omega, ?_⟩, by simp only; omega, trivial⟩
      simp only
      rw [e2, e3]
      congr 2
      omega
    · right
      simp only
      rw [if_neg (by simpa using ht), c]
      have : t13.toNat = s.Accounts.length := by omega
      rw [this, List.take_length]
  rw [key]
  rfl
theorem sameInts_eq (a b : List Int) (ha1 : a.length ≤ 9223372036854775807) : laws_sameInts a b = some (decide (a = b)) := by
  unfold laws_sameInts
  by_cases hl : a.length = b.length
  · rw [if_neg (by simp [hl])]
    have key := eq_loop (step := laws_sameInts_L1 a b) (fun i => (⟨i⟩ : laws_sameInts_G1)) a b hl (fun i hi => ?_) ?_
    · rw [key]; by_cases h : a = b <;> simp [h]
    · unfold laws_sameInts_L1
      simp (disch := omega) only [decide_eq_true_eq, if_pos, guard_pos, Int.toNat_natCast, wI_id]
      by_cases h : nth a i = nth b i <;> simp [h]
    · unfold laws_sameInts_L1
      rw [if_neg (by simp)]
  · rw [if_pos (by simp; omega)]
    simp [show a ≠ b from fun h => hl (by rw [h])]
theorem sameSagas_eq (s : SagaT) (h1 : s.Accounts.length ≤ 1000000) (h2 : s.Moves.length ≤ 1000000) : laws_sameSagas s s = some true := by
  unfold laws_sameSagas
  rw [sameInts_eq _ _ (by omega)]
  simp only [bne_self_eq_false, beq_self_eq_true, Bool.not_true, Bool.false_eq_true, if_false, decide_true, Option.bind_some]
  have key := eq_loop (step := laws_sameSagas_L1 s s) (fun i => (⟨i⟩ : laws_sameSagas_G1)) s.Moves s.Moves rfl (fun i hi => ?_) ?_
  · rw [key]; simp
  · unfold laws_sameSagas_L1
    simp (disch := omega) only [decide_eq_true_eq, if_pos, guard_pos, Int.toNat_natCast, wI_id]
    simp
  · unfold laws_sameSagas_L1
    rw [if_neg (by simp)]
theorem numberOf_ok (l : List Int) (hl : l.length ≤ 9223372036854775807) (hb : ∀ y ∈ l, 0 ≤ y ∧ y ≤ 255) : okO (fun x => 0 ≤ x ∧ x < 1000003) (laws_numberOf l) := by
  unfold laws_numberOf
  refine okO.bind (P := fun y : laws_numberOf_P1_0 => 0 ≤ y.t3 ∧ y.t3 < 1000003) (okO.loop (inv := fun g : laws_numberOf_G1 => 0 ≤ g.t3 ∧ g.t3 < 1000003 ∧ 0 ≤ g.t8 ∧ g.t8 ≤ l.length) (fun g => l.length - g.t8.toNat) (by simp) fun g hg => ?_) fun y hy => okO.some hy
  obtain ⟨t3, t8⟩ := g
  obtain ⟨a, b, c, d⟩ := hg
  simp only at a b c d
  unfold laws_numberOf_L1
  refine okO.ite (fun ht => ?_) (fun ht => okO.some ⟨a, b⟩)
  have ht' : t8 < ((l.length : Nat) : Int) := by simpa using ht
  refine okO.guard ⟨c, ht'⟩ (okO.some ?_)
  have hy := hb _ (nth_mem (l := l) (n := t8.toNat) (by omega))
  have e : wI (t8 + 1) = t8 + 1 := wI_id (by omega)
  have e2 : wI (wI (31 * t3) + wI (nth l t8.toNat)) = 31 * t3 + nth l t8.toNat := by
    rw [wI_id (n := 31 * t3) (by omega), wI_id (n := nth l t8.toNat) (by omega), wI_id (by omega)]
  simp only [e, e2]
  exact ⟨⟨Int.tmod_nonneg _ (by omega), Int.tmod_lt_of_pos _ (by omega), by omega, by omega⟩, by omega⟩
end Go.TL

import Derived.Test.YtjhcfmcdllfmpaaG33PpR1
import Derived.Test.YtjhcfmcdllfmpaaPlRSG
import Derived.Test.YtjhcfmcdllfmpaaPlMark
set_option linter.unusedSimpArgs false
set_option linter.unusedVariables false
set_option linter.unusedVariables false
set_option linter.unusedSimpArgs false
set_option maxRecDepth 4000
namespace Go.TL
def ok_LI (x : (List Int)) : Prop := x.length ≤ 9223372036854775807 ∧ ∀ y ∈ x, ok_I y
def siz_LI (x : (List Int)) : Nat := x.length + sumN (x.map siz_I)
def lk_LI (x : (List Int)) : Prop := x.length ≤ 9223372036854775807 ∧ ∀ y ∈ x, lk_I y
theorem lk_of_LI {x : (List Int)} (h : ok_LI x) : lk_LI x := ⟨h.1, fun y hy => lk_of_I (h.2 y hy)⟩
theorem laws_szIntS_eq (a : (List Int)) (n : Int) (ha : ok_LI a) (h0 : 0 ≤ n) (h1 : n ≤ 4611686018427387904) : laws_szIntS a n = some (szr (siz_LI a) n) := by
  obtain ⟨ha1, ha2⟩ := ha
  unfold laws_szIntS
  rw [wI_id (by omega)]
  by_cases hc : n - ((a.length : Nat) : Int) < 0
  · rw [if_pos (decide_eq_true hc)]
    unfold szr siz_LI
    rw [if_neg (by omega)]
  · rw [if_neg (by simpa using hc)]
    unfold szr siz_LI
    have hz : sumN (a.map siz_I) = 0 := by exact sumN_zero fun _ _ => rfl
    rw [hz, if_pos (by omega)]
    congr 1 <;> omega
def ok_Move (x : MoveT) : Prop := ok_I x.From ∧ ok_I x.To ∧ ok_I x.Many
def siz_Move (x : MoveT) : Nat := siz_I x.From + siz_I x.To + siz_I x.Many
def lk_Move (x : MoveT) : Prop := lk_I x.From ∧ lk_I x.To ∧ lk_I x.Many
theorem lk_of_Move {x : MoveT} (h : ok_Move x) : lk_Move x := ⟨lk_of_I h.1, lk_of_I h.2.1, lk_of_I h.2.2⟩
def ok_LMove (x : (List MoveT)) : Prop := x.length ≤ 9223372036854775807 ∧ ∀ y ∈ x, ok_Move y
def siz_LMove (x : (List MoveT)) : Nat := x.length + sumN (x.map siz_Move)
def lk_LMove (x : (List MoveT)) : Prop := x.length ≤ 9223372036854775807 ∧ ∀ y ∈ x, lk_Move y
theorem lk_of_LMove {x : (List MoveT)} (h : ok_LMove x) : lk_LMove x := ⟨h.1, fun y hy => lk_of_Move (h.2 y hy)⟩
theorem laws_szMoveS_eq (a : (List MoveT)) (n : Int) (ha : ok_LMove a) (h0 : 0 ≤ n) (h1 : n ≤ 4611686018427387904) : laws_szMoveS a n = some (szr (siz_LMove a) n) := by
  obtain ⟨ha1, ha2⟩ := ha
  unfold laws_szMoveS
  rw [wI_id (by omega)]
  by_cases hc : n - ((a.length : Nat) : Int) < 0
  · rw [if_pos (decide_eq_true hc)]
    unfold szr siz_LMove
    rw [if_neg (by omega)]
  · rw [if_neg (by simpa using hc)]
    unfold szr siz_LMove
    have hz : sumN (a.map siz_Move) = 0 := by exact sumN_zero fun _ _ => rfl
    rw [hz, if_pos (by omega)]
    congr 1 <;> omega
def ok_Saga (x : SagaT) : Prop := ok_LI x.Accounts ∧ ok_LMove x.Moves ∧ ok_I x.Done ∧ ok_B x.Undoing
def siz_Saga (x : SagaT) : Nat := siz_LI x.Accounts + siz_LMove x.Moves + siz_I x.Done + siz_B x.Undoing
def lk_Saga (x : SagaT) : Prop := lk_LI x.Accounts ∧ lk_LMove x.Moves ∧ lk_I x.Done ∧ lk_B x.Undoing
theorem lk_of_Saga {x : SagaT} (h : ok_Saga x) : lk_Saga x := ⟨lk_of_LI h.1, lk_of_LMove h.2.1, lk_of_I h.2.2.1, lk_of_B h.2.2.2⟩
theorem laws_szSaga_eq (a : SagaT) (n : Int) (ha : ok_Saga a) (h0 : 0 ≤ n) (h1 : n ≤ 4611686018427387904) : laws_szSaga a n = some (szr (siz_Saga a) n) := by
  unfold laws_szSaga
  unfold ok_Saga at ha
  unfold siz_Saga
  have z_Done : siz_I a.Done = 0 := siz0_I _
  rw [z_Done]
  have z_Undoing : siz_B a.Undoing = 0 := siz0_B _
  rw [z_Undoing]
  rw [laws_szIntS_eq _ _ (ha.1) (by omega) (by omega)]
  simp only [Option.bind_some]
  by_cases c0 : (siz_LI a.Accounts : Int) ≤ n
  rotate_left
  · have e : szr (siz_LI a.Accounts) n = -1 := by unfold szr; rw [if_neg c0]
    rw [e, if_pos (by decide)]; unfold szr; rw [if_neg (by omega)]
  have e0 : szr (siz_LI a.Accounts) n = n - (siz_LI a.Accounts : Int) := by unfold szr; rw [if_pos c0]
  rw [e0, if_neg (by simp; omega)]
  rw [laws_szMoveS_eq _ _ (ha.2.1) (by omega) (by omega)]
  simp only [Option.bind_some]
  by_cases c1 : (siz_LMove a.Moves : Int) ≤ (n - (siz_LI a.Accounts : Int))
  rotate_left
  · have e : szr (siz_LMove a.Moves) (n - (siz_LI a.Accounts : Int)) = -1 := by unfold szr; rw [if_neg c1]
    rw [e, if_pos (by decide)]; unfold szr; rw [if_neg (by omega)]
  have e1 : szr (siz_LMove a.Moves) (n - (siz_LI a.Accounts : Int)) = (n - (siz_LI a.Accounts : Int)) - (siz_LMove a.Moves : Int) := by unfold szr; rw [if_pos c1]
  rw [e1, if_neg (by simp; omega)]
  unfold szr; rw [if_pos (by omega)]
  congr 1 <;> omega
theorem laws_toIntS_eq (a : (List Int)) (ha : siz_LI a ≤ 4194304) : laws_toIntS a = some a := by
  unfold siz_LI at ha
  unfold laws_toIntS
  rw [guard_pos (by omega)]
  have key := fill_loop (step := laws_toIntS_L1 a) (fun i l => (⟨i, l⟩ : laws_toIntS_G1)) a (fun x => x) (fun l => (⟨l⟩ : laws_toIntS_P1_0)) (fun i l hi hl => ?_) (fun l hl => ?_) (List.replicate a.length 0) (by simp)
  · rw [key]; simp
  · unfold laws_toIntS_L1
    simp (disch := omega) only [decide_eq_true_eq, if_pos, guard_pos, Int.toNat_natCast, wI_id]
    rfl
  · unfold laws_toIntS_L1
    rw [if_neg (by simp)]
theorem laws_toMove_eq (a : MoveT) (ha : siz_Move a ≤ 4194304) : laws_toMove a = some a := by
  unfold siz_Move at ha
  unfold laws_toMove
  all_goals rfl
theorem laws_toMoveS_eq (a : (List MoveT)) (ha : siz_LMove a ≤ 4194304) : laws_toMoveS a = some a := by
  unfold siz_LMove at ha
  unfold laws_toMoveS
  rw [guard_pos (by omega)]
  have key := fill_loop (step := laws_toMoveS_L1 a) (fun i l => (⟨i, l⟩ : laws_toMoveS_G1)) a (fun x => x) (fun l => (⟨l⟩ : laws_toMoveS_P1_0)) (fun i l hi hl => ?_) (fun l hl => ?_) (List.replicate a.length (⟨0, 0, 0⟩ : MoveT)) (by simp)
  · rw [key]; simp
  · unfold laws_toMoveS_L1
    have hm : siz_Move (nth a i) ≤ 4194304 := Nat.le_trans (sumN_mem siz_Move (nth_mem hi)) (by omega)
    simp (disch := omega) only [decide_eq_true_eq, if_pos, guard_pos, Int.toNat_natCast, wI_id]
    rw [laws_toMove_eq _ hm]
    simp (disch := omega) only [Option.bind_some, guard_pos]
    rfl
  · unfold laws_toMoveS_L1
    rw [if_neg (by simp)]
theorem laws_toSaga_eq (a : SagaT) (ha : siz_Saga a ≤ 4194304) : laws_toSaga a = some a := by
  unfold siz_Saga at ha
  unfold laws_toSaga
  rw [laws_toIntS_eq _ (by omega)]
  simp only [Option.bind_some]
  rw [laws_toMoveS_eq _ (by omega)]
  simp only [Option.bind_some]
  all_goals rfl
theorem laws_eqIntS_eq (a b : (List Int)) (ha : lk_LI a) : laws_eqIntS a b = some (decide (a = b)) := by
  obtain ⟨ha1, ha2⟩ := ha
  unfold laws_eqIntS
  by_cases hl : a.length = b.length
  · rw [if_neg (by simp [hl])]
    have key := eq_loop (step := laws_eqIntS_L1 a b) (fun i => (⟨i⟩ : laws_eqIntS_G1)) a b hl (fun i hi => ?_) ?_
    · rw [key]; by_cases h : a = b <;> simp [h]
    · have hm := ha2 _ (nth_mem hi)
      unfold laws_eqIntS_L1
      simp (disch := omega) only [decide_eq_true_eq, if_pos, guard_pos, Int.toNat_natCast, wI_id]
      by_cases h : nth a i = nth b i <;> simp [h]
    · unfold laws_eqIntS_L1
      rw [if_neg (by simp)]
  · rw [if_pos (by simp; omega)]
    simp [show a ≠ b from fun h => hl (by rw [h])]
theorem laws_eqMove_eq (a b : MoveT) (ha : lk_Move a) : laws_eqMove a b = some (decide (a = b)) := by
  unfold lk_Move at ha
  unfold laws_eqMove
  obtain ⟨x0, x1, x2⟩ := a
  obtain ⟨y0, y1, y2⟩ := b
  simp only [sEq, Option.bind_some, MoveT.mk.injEq]
  by_cases h0 : x0 = y0
  rotate_left
  · simp [h0]
  by_cases h1 : x1 = y1
  rotate_left
  · simp [h1]
  by_cases h2 : x2 = y2
  rotate_left
  · simp [h2]
  simp [h0, h1, h2]
theorem laws_eqMoveS_eq (a b : (List MoveT)) (ha : lk_LMove a) : laws_eqMoveS a b = some (decide (a = b)) := by
  obtain ⟨ha1, ha2⟩ := ha
  unfold laws_eqMoveS
  by_cases hl : a.length = b.length
  · rw [if_neg (by simp [hl])]
    have key := eq_loop (step := laws_eqMoveS_L1 a b) (fun i => (⟨i⟩ : laws_eqMoveS_G1)) a b hl (fun i hi => ?_) ?_
    · rw [key]; by_cases h : a = b <;> simp [h]
    · have hm := ha2 _ (nth_mem hi)
      unfold laws_eqMoveS_L1
      simp (disch := omega) only [decide_eq_true_eq, if_pos, guard_pos, Int.toNat_natCast, wI_id]
      rw [laws_eqMove_eq _ _ hm]; simp only [Option.bind_some]
      by_cases h : nth a i = nth b i <;> simp [h]
    · unfold laws_eqMoveS_L1
      rw [if_neg (by simp)]
  · rw [if_pos (by simp; omega)]
    simp [show a ≠ b from fun h => hl (by rw [h])]
theorem laws_eqSaga_eq (a b : SagaT) (ha : lk_Saga a) : laws_eqSaga a b = some (decide (a = b)) := by
  unfold lk_Saga at ha
  unfold laws_eqSaga
  rw [laws_eqIntS_eq _ _ (ha.1)]
  rw [laws_eqMoveS_eq _ _ (ha.2.1)]
  obtain ⟨x0, x1, x2, x3⟩ := a
  obtain ⟨y0, y1, y2, y3⟩ := b
  simp only [sEq, Option.bind_some, SagaT.mk.injEq]
  by_cases h0 : x0 = y0
  rotate_left
  · simp [h0]
  by_cases h1 : x1 = y1
  rotate_left
  · simp [h1]
  by_cases h2 : x2 = y2
  rotate_left
  · simp [h2]
  by_cases h3 : x3 = y3
  rotate_left
  · simp [h3]
  simp [h0, h1, h2, h3]
end Go.TL

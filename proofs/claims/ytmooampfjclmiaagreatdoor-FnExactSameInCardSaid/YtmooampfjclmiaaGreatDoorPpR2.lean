import Derived.Test.YtmooampfjclmiaaGreatDoorPpStep
set_option linter.unusedSimpArgs false
set_option linter.unusedVariables false
set_option linter.unusedVariables false
set_option linter.unusedSimpArgs false
set_option maxRecDepth 4000
namespace Go.TL
def ok_LineStep (x : LineStepT) : Prop := ok_I x.Kind ∧ ok_I x.K ∧ ok_S x.Text
def siz_LineStep (x : LineStepT) : Nat := siz_I x.Kind + siz_I x.K + siz_S x.Text
def lk_LineStep (x : LineStepT) : Prop := lk_I x.Kind ∧ lk_I x.K ∧ lk_S x.Text
theorem lk_of_LineStep {x : LineStepT} (h : ok_LineStep x) : lk_LineStep x := ⟨lk_of_I h.1, lk_of_I h.2.1, lk_of_S h.2.2⟩
theorem laws_szLineStep_eq (a : LineStepT) (n : Int) (ha : ok_LineStep a) (h0 : 0 ≤ n) (h1 : n ≤ 4611686018427387904) : laws_szLineStep a n = some (szr (siz_LineStep a) n) := by
  unfold laws_szLineStep
  unfold ok_LineStep at ha
  unfold siz_LineStep
  have z_Kind : siz_I a.Kind = 0 := siz0_I _
  rw [z_Kind]
  have z_K : siz_I a.K = 0 := siz0_I _
  rw [z_K]
  have q0 : a.Text.size ≤ 9223372036854775807 := ha.2.2
  have z0 : siz_S a.Text = a.Text.size := rfl
  rw [z0, wI_id (by omega)]
  have e0 : szr a.Text.size (n) = if (a.Text.size : Int) ≤ n then n - (a.Text.size : Int) else -1 := rfl
  by_cases c0 : (a.Text.size : Int) ≤ n
  rotate_left
  · rw [if_pos (by simp; omega)]; unfold szr; rw [if_neg (by omega)]
  rw [if_neg (by simp; omega)]
  unfold szr; rw [if_pos (by omega)]
  congr 1; omega
theorem laws_toLineStep_eq (a : LineStepT) (ha : siz_LineStep a ≤ 4194304) : laws_toLineStep a = some a := by
  unfold siz_LineStep at ha
  unfold laws_toLineStep
  all_goals rfl
def ok_LLineStep (x : (List LineStepT)) : Prop := x.length ≤ 9223372036854775807 ∧ ∀ y ∈ x, ok_LineStep y
def siz_LLineStep (x : (List LineStepT)) : Nat := x.length + sumN (x.map siz_LineStep)
def lk_LLineStep (x : (List LineStepT)) : Prop := x.length ≤ 9223372036854775807 ∧ ∀ y ∈ x, lk_LineStep y
theorem lk_of_LLineStep {x : (List LineStepT)} (h : ok_LLineStep x) : lk_LLineStep x := ⟨h.1, fun y hy => lk_of_LineStep (h.2 y hy)⟩
theorem laws_szLineStepS_eq (a : (List LineStepT)) (n : Int) (ha : ok_LLineStep a) (h0 : 0 ≤ n) (h1 : n ≤ 4611686018427387904) : laws_szLineStepS a n = some (szr (siz_LLineStep a) n) := by
  obtain ⟨ha1, ha2⟩ := ha
  unfold laws_szLineStepS
  rw [wI_id (by omega)]
  by_cases hc : n - ((a.length : Nat) : Int) < 0
  · rw [if_pos (decide_eq_true hc)]
    unfold szr siz_LLineStep
    rw [if_neg (by omega)]
  · rw [if_neg (by simpa using hc)]
    have key := sz_loop (step := laws_szLineStepS_L1 a) (fun i s => (⟨s, i⟩ : laws_szLineStepS_G1)) a siz_LineStep n (fun s => (.inr ⟨s⟩ : Unit ⊕ laws_szLineStepS_P1_1)) (.inl ()) (fun i s hi hs => ?_) (fun s hs => ?_) (n - ((a.length : Nat) : Int)) ⟨by omega, by omega⟩
    · rw [key]
      unfold szr siz_LLineStep
      by_cases h : (sumN (a.map siz_LineStep) : Int) ≤ n - ((a.length : Nat) : Int)
      · rw [if_pos h, if_pos (by omega)]; simp only [Option.bind_some]; congr 1; omega
      · rw [if_neg h, if_neg (by omega)]; rfl
    · have hm := ha2 _ (nth_mem hi)
      unfold laws_szLineStepS_L1
      simp (disch := omega) only [decide_eq_true_eq, if_pos, guard_pos, Int.toNat_natCast, wI_id]
      rw [laws_szLineStep_eq _ _ hm (by omega) (by omega)]
      simp only [Option.bind_some]
      unfold szr
      by_cases h : (siz_LineStep (nth a i) : Int) ≤ s
      · rw [if_pos h, if_pos h, if_neg (by omega)]; rfl
      · rw [if_neg h, if_neg h, if_pos (by omega)]
    · unfold laws_szLineStepS_L1
      rw [if_neg (by simp)]
theorem laws_toLineStepS_eq (a : (List LineStepT)) (ha : siz_LLineStep a ≤ 4194304) : laws_toLineStepS a = some a := by
  unfold siz_LLineStep at ha
  unfold laws_toLineStepS
  rw [guard_pos (by omega)]
  have key := fill_loop (step := laws_toLineStepS_L1 a) (fun i l => (⟨i, l⟩ : laws_toLineStepS_G1)) a (fun x => x) (fun l => (⟨l⟩ : laws_toLineStepS_P1_0)) (fun i l hi hl => ?_) (fun l hl => ?_) (List.replicate a.length (⟨0, 0, ByteArray.empty⟩ : LineStepT)) (by simp)
  · rw [key]; simp
  · unfold laws_toLineStepS_L1
    have hm : siz_LineStep (nth a i) ≤ 4194304 := Nat.le_trans (sumN_mem siz_LineStep (nth_mem hi)) (by omega)
    simp (disch := omega) only [decide_eq_true_eq, if_pos, guard_pos, Int.toNat_natCast, wI_id]
    rw [laws_toLineStep_eq _ hm]
    simp (disch := omega) only [Option.bind_some, guard_pos]
    rfl
  · unfold laws_toLineStepS_L1
    rw [if_neg (by simp)]
def ok_LB (x : (List Bool)) : Prop := x.length ≤ 9223372036854775807 ∧ ∀ y ∈ x, ok_B y
def siz_LB (x : (List Bool)) : Nat := x.length + sumN (x.map siz_B)
def lk_LB (x : (List Bool)) : Prop := x.length ≤ 9223372036854775807 ∧ ∀ y ∈ x, lk_B y
theorem lk_of_LB {x : (List Bool)} (h : ok_LB x) : lk_LB x := ⟨h.1, fun y hy => lk_of_B (h.2 y hy)⟩
theorem laws_eqBoolS_eq (a b : (List Bool)) (ha : lk_LB a) : laws_eqBoolS a b = some (decide (a = b)) := by
  obtain ⟨ha1, ha2⟩ := ha
  unfold laws_eqBoolS
  by_cases hl : a.length = b.length
  · rw [if_neg (by simp [hl])]
    have key := eq_loop (step := laws_eqBoolS_L1 a b) (fun i => (⟨i⟩ : laws_eqBoolS_G1)) a b hl (fun i hi => ?_) ?_
    · rw [key]; by_cases h : a = b <;> simp [h]
    · have hm := ha2 _ (nth_mem hi)
      unfold laws_eqBoolS_L1
      simp (disch := omega) only [decide_eq_true_eq, if_pos, guard_pos, Int.toNat_natCast, wI_id]
      by_cases h : nth a i = nth b i <;> simp [h]
    · unfold laws_eqBoolS_L1
      rw [if_neg (by simp)]
  · rw [if_pos (by simp; omega)]
    simp [show a ≠ b from fun h => hl (by rw [h])]
theorem laws_eqLineStep_eq (a b : LineStepT) (ha : lk_LineStep a) : laws_eqLineStep a b = some (decide (a = b)) := by
  unfold lk_LineStep at ha
  unfold laws_eqLineStep
  obtain ⟨x0, x1, x2⟩ := a
  obtain ⟨y0, y1, y2⟩ := b
  simp only [sEq, Option.bind_some, LineStepT.mk.injEq]
  by_cases h0 : x0 = y0
  rotate_left
  · simp [h0]
  by_cases h1 : x1 = y1
  rotate_left
  · simp [h1]
  by_cases h2 : x2 = y2
  rotate_left
  · simp [h2]
  simp [h0, h1, h2]
theorem laws_eqLineStepS_eq (a b : (List LineStepT)) (ha : lk_LLineStep a) : laws_eqLineStepS a b = some (decide (a = b)) := by
  obtain ⟨ha1, ha2⟩ := ha
  unfold laws_eqLineStepS
  by_cases hl : a.length = b.length
  · rw [if_neg (by simp [hl])]
    have key := eq_loop (step := laws_eqLineStepS_L1 a b) (fun i => (⟨i⟩ : laws_eqLineStepS_G1)) a b hl (fun i hi => ?_) ?_
    · rw [key]; by_cases h : a = b <;> simp [h]
    · have hm := ha2 _ (nth_mem hi)
      unfold laws_eqLineStepS_L1
      simp (disch := omega) only [decide_eq_true_eq, if_pos, guard_pos, Int.toNat_natCast, wI_id]
      rw [laws_eqLineStep_eq _ _ hm]; simp only [Option.bind_some]
      by_cases h : nth a i = nth b i <;> simp [h]
    · unfold laws_eqLineStepS_L1
      rw [if_neg (by simp)]
  · rw [if_pos (by simp; omega)]
    simp [show a ≠ b from fun h => hl (by rw [h])]
end Go.TL

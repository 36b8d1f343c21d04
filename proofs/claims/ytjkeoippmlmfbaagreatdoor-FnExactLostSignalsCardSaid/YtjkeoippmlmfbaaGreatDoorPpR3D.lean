import Derived.Test.YtjkeoippmlmfbaaGreatDoorG39PpDom
import Derived.Test.YtjkeoippmlmfbaaGreatDoorG20PlR1
set_option linter.unusedSimpArgs false
set_option linter.unusedVariables false
set_option linter.unusedVariables false
set_option linter.unusedSimpArgs false
set_option maxRecDepth 4000
namespace Go.TL
def ok_Event (x : EventT) : Prop := ok_I x.Id ∧ ok_I x.Version ∧ ok_I x.Kind ∧ ok_S x.Name
def siz_Event (x : EventT) : Nat := siz_I x.Id + siz_I x.Version + siz_I x.Kind + siz_S x.Name
def lk_Event (x : EventT) : Prop := lk_I x.Id ∧ lk_I x.Version ∧ lk_I x.Kind ∧ lk_S x.Name
theorem lk_of_Event {x : EventT} (h : ok_Event x) : lk_Event x := ⟨lk_of_I h.1, lk_of_I h.2.1, lk_of_I h.2.2.1, lk_of_S h.2.2.2⟩
theorem laws_szEvent_eq (a : EventT) (n : Int) (ha : ok_Event a) (h0 : 0 ≤ n) (h1 : n ≤ 4611686018427387904) : laws_szEvent a n = some (szr (siz_Event a) n) := by
  unfold laws_szEvent
  unfold ok_Event at ha
  unfold siz_Event
  have z_Id : siz_I a.Id = 0 := siz0_I _
  rw [z_Id]
  have z_Version : siz_I a.Version = 0 := siz0_I _
  rw [z_Version]
  have z_Kind : siz_I a.Kind = 0 := siz0_I _
  rw [z_Kind]
  have q0 : a.Name.size ≤ 9223372036854775807 := ha.2.2.2
  have z0 : siz_S a.Name = a.Name.size := rfl
  rw [z0, wI_id (by omega)]
  have e0 : szr a.Name.size (n) = if (a.Name.size : Int) ≤ n then n - (a.Name.size : Int) else -1 := rfl
  by_cases c0 : (a.Name.size : Int) ≤ n
  rotate_left
  · rw [if_pos (by simp; omega)]; unfold szr; rw [if_neg (by omega)]
  rw [if_neg (by simp; omega)]
  unfold szr; rw [if_pos (by omega)]
  congr 1; omega
def ok_LEvent (x : (List EventT)) : Prop := x.length ≤ 9223372036854775807 ∧ ∀ y ∈ x, ok_Event y
def siz_LEvent (x : (List EventT)) : Nat := x.length + sumN (x.map siz_Event)
def lk_LEvent (x : (List EventT)) : Prop := x.length ≤ 9223372036854775807 ∧ ∀ y ∈ x, lk_Event y
theorem lk_of_LEvent {x : (List EventT)} (h : ok_LEvent x) : lk_LEvent x := ⟨h.1, fun y hy => lk_of_Event (h.2 y hy)⟩
theorem laws_szEventS_eq (a : (List EventT)) (n : Int) (ha : ok_LEvent a) (h0 : 0 ≤ n) (h1 : n ≤ 4611686018427387904) : laws_szEventS a n = some (szr (siz_LEvent a) n) := by
  obtain ⟨ha1, ha2⟩ := ha
  unfold laws_szEventS
  rw [wI_id (by omega)]
  by_cases hc : n - ((a.length : Nat) : Int) < 0
  · rw [if_pos (decide_eq_true hc)]
    unfold szr siz_LEvent
    rw [if_neg (by omega)]
  · rw [if_neg (by simpa using hc)]
    have key := sz_loop (step := laws_szEventS_L1 a) (fun i s => (⟨s, i⟩ : laws_szEventS_G1)) a siz_Event n (fun s => (.inr ⟨s⟩ : Unit ⊕ laws_szEventS_P1_1)) (.inl ()) (fun i s hi hs => ?_) (fun s hs => ?_) (n - ((a.length : Nat) : Int)) ⟨by omega, by omega⟩
    · rw [key]
      unfold szr siz_LEvent
      by_cases h : (sumN (a.map siz_Event) : Int) ≤ n - ((a.length : Nat) : Int)
      · rw [if_pos h, if_pos (by omega)]; simp only [Option.bind_some]; congr 1; omega
      · rw [if_neg h, if_neg (by omega)]; rfl
    · have hm := ha2 _ (nth_mem hi)
      unfold laws_szEventS_L1
      simp (disch := omega) only [decide_eq_true_eq, if_pos, guard_pos, Int.toNat_natCast, wI_id]
      rw [laws_szEvent_eq _ _ hm (by omega) (by omega)]
      simp only [Option.bind_some]
      unfold szr
      by_cases h : (siz_Event (nth a i) : Int) ≤ s
      · rw [if_pos h, if_pos h, if_neg (by omega)]; rfl
      · rw [if_neg h, if_neg h, if_pos (by omega)]
    · unfold laws_szEventS_L1
      rw [if_neg (by simp)]
theorem laws_toEvent_eq (a : EventT) (ha : siz_Event a ≤ 4194304) : laws_toEvent a = some a := by
  unfold siz_Event at ha
  unfold laws_toEvent
  all_goals rfl
theorem laws_toEventS_eq (a : (List EventT)) (ha : siz_LEvent a ≤ 4194304) : laws_toEventS a = some a := by
  unfold siz_LEvent at ha
  unfold laws_toEventS
  rw [guard_pos (by omega)]
  have key := fill_loop (step := laws_toEventS_L1 a) (fun i l => (⟨i, l⟩ : laws_toEventS_G1)) a (fun x => x) (fun l => (⟨l⟩ : laws_toEventS_P1_0)) (fun i l hi hl => ?_) (fun l hl => ?_) (List.replicate a.length (⟨0, 0, 0, ByteArray.empty⟩ : EventT)) (by simp)
  · rw [key]; simp
  · unfold laws_toEventS_L1
    have hm : siz_Event (nth a i) ≤ 4194304 := Nat.le_trans (sumN_mem siz_Event (nth_mem hi)) (by omega)
    simp (disch := omega) only [decide_eq_true_eq, if_pos, guard_pos, Int.toNat_natCast, wI_id]
    rw [laws_toEvent_eq _ hm]
    simp (disch := omega) only [Option.bind_some, guard_pos]
    rfl
  · unfold laws_toEventS_L1
    rw [if_neg (by simp)]
theorem laws_eqEvent_eq (a b : EventT) (ha : lk_Event a) : laws_eqEvent a b = some (decide (a = b)) := by
  unfold lk_Event at ha
  unfold laws_eqEvent
  obtain ⟨x0, x1, x2, x3⟩ := a
  obtain ⟨y0, y1, y2, y3⟩ := b
  simp only [sEq, Option.bind_some, EventT.mk.injEq]
  by_cases h0 : x0 = y0
  rotate_left
  · simp [h0]
  by_cases h1 : x1 = y1
  rotate_left
  · simp [h1]
  by_cases h2 : x2 = y2
  rotate_left
  · simp [h2]
  by_cases h3 : x3 = y3
  rotate_left
  · simp [h3]
  simp [h0, h1, h2, h3]
theorem laws_eqEventS_eq (a b : (List EventT)) (ha : lk_LEvent a) : laws_eqEventS a b = some (decide (a = b)) := by
  obtain ⟨ha1, ha2⟩ := ha
  unfold laws_eqEventS
  by_cases hl : a.length = b.length
  · rw [if_neg (by simp [hl])]
    have key := eq_loop (step := laws_eqEventS_L1 a b) (fun i => (⟨i⟩ : laws_eqEventS_G1)) a b hl (fun i hi => ?_) ?_
    · rw [key]; by_cases h : a = b <;> simp [h]
    · have hm := ha2 _ (nth_mem hi)
      unfold laws_eqEventS_L1
      simp (disch := omega) only [decide_eq_true_eq, if_pos, guard_pos, Int.toNat_natCast, wI_id]
      rw [laws_eqEvent_eq _ _ hm]; simp only [Option.bind_some]
      by_cases h : nth a i = nth b i <;> simp [h]
    · unfold laws_eqEventS_L1
      rw [if_neg (by simp)]
  · rw [if_pos (by simp; omega)]
    simp [show a ≠ b from fun h => hl (by rw [h])]
def ok_Branch (x : BranchT) : Prop := ok_LEvent x.Events
def siz_Branch (x : BranchT) : Nat := siz_LEvent x.Events
def lk_Branch (x : BranchT) : Prop := lk_LEvent x.Events
theorem lk_of_Branch {x : BranchT} (h : ok_Branch x) : lk_Branch x := lk_of_LEvent h
theorem laws_szBranch_eq (a : BranchT) (n : Int) (ha : ok_Branch a) (h0 : 0 ≤ n) (h1 : n ≤ 4611686018427387904) : laws_szBranch a n = some (szr (siz_Branch a) n) := by
  unfold laws_szBranch
  unfold ok_Branch at ha
  unfold siz_Branch
  rw [laws_szEventS_eq _ _ (ha) (by omega) (by omega)]
  simp only [Option.bind_some]
  by_cases c0 : (siz_LEvent a.Events : Int) ≤ n
  rotate_left
  · have e : szr (siz_LEvent a.Events) n = -1 := by unfold szr; rw [if_neg c0]
    rw [e, if_pos (by decide)]
    try (unfold szr; rw [if_neg (by omega)])
  have e0 : szr (siz_LEvent a.Events) n = n - (siz_LEvent a.Events : Int) := by unfold szr; rw [if_pos c0]
  rw [e0, if_neg (by simp; omega)]
  try (unfold szr; rw [if_pos (by omega)])
  try (congr 1; omega)
def ok_LBranch (x : (List BranchT)) : Prop := x.length ≤ 9223372036854775807 ∧ ∀ y ∈ x, ok_Branch y
def siz_LBranch (x : (List BranchT)) : Nat := x.length + sumN (x.map siz_Branch)
def lk_LBranch (x : (List BranchT)) : Prop := x.length ≤ 9223372036854775807 ∧ ∀ y ∈ x, lk_Branch y
theorem lk_of_LBranch {x : (List BranchT)} (h : ok_LBranch x) : lk_LBranch x := ⟨h.1, fun y hy => lk_of_Branch (h.2 y hy)⟩
theorem laws_szBranchS_eq (a : (List BranchT)) (n : Int) (ha : ok_LBranch a) (h0 : 0 ≤ n) (h1 : n ≤ 4611686018427387904) : laws_szBranchS a n = some (szr (siz_LBranch a) n) := by
  obtain ⟨ha1, ha2⟩ := ha
  unfold laws_szBranchS
  rw [wI_id (by omega)]
  by_cases hc : n - ((a.length : Nat) : Int) < 0
  · rw [if_pos (decide_eq_true hc)]
    unfold szr siz_LBranch
    rw [if_neg (by omega)]
  · rw [if_neg (by simpa using hc)]
    have key := sz_loop (step := laws_szBranchS_L1 a) (fun i s => (⟨s, i⟩ : laws_szBranchS_G1)) a siz_Branch n (fun s => (.inr ⟨s⟩ : Unit ⊕ laws_szBranchS_P1_1)) (.inl ()) (fun i s hi hs => ?_) (fun s hs => ?_) (n - ((a.length : Nat) : Int)) ⟨by omega, by omega⟩
    · rw [key]
      unfold szr siz_LBranch
      by_cases h : (sumN (a.map siz_Branch) : Int) ≤ n - ((a.length : Nat) : Int)
      · rw [if_pos h, if_pos (by omega)]; simp only [Option.bind_some]; congr 1; omega
      · rw [if_neg h, if_neg (by omega)]; rfl
    · have hm := ha2 _ (nth_mem hi)
      unfold laws_szBranchS_L1
      simp (disch := omega) only [decide_eq_true_eq, if_pos, guard_pos, Int.toNat_natCast, wI_id]
      rw [laws_szBranch_eq _ _ hm (by omega) (by omega)]
      simp only [Option.bind_some]
      unfold szr
      by_cases h : (siz_Branch (nth a i) : Int) ≤ s
      · rw [if_pos h, if_pos h, if_neg (by omega)]; rfl
      · rw [if_neg h, if_neg h, if_pos (by omega)]
    · unfold laws_szBranchS_L1
      rw [if_neg (by simp)]
def ok_Tellings (x : TellingsT) : Prop := ok_LBranch x.Branches
def siz_Tellings (x : TellingsT) : Nat := siz_LBranch x.Branches
def lk_Tellings (x : TellingsT) : Prop := lk_LBranch x.Branches
theorem lk_of_Tellings {x : TellingsT} (h : ok_Tellings x) : lk_Tellings x := lk_of_LBranch h
theorem laws_szTellings_eq (a : TellingsT) (n : Int) (ha : ok_Tellings a) (h0 : 0 ≤ n) (h1 : n ≤ 4611686018427387904) : laws_szTellings a n = some (szr (siz_Tellings a) n) := by
  unfold laws_szTellings
  unfold ok_Tellings at ha
  unfold siz_Tellings
  rw [laws_szBranchS_eq _ _ (ha) (by omega) (by omega)]
  simp only [Option.bind_some]
  by_cases c0 : (siz_LBranch a.Branches : Int) ≤ n
  rotate_left
  · have e : szr (siz_LBranch a.Branches) n = -1 := by unfold szr; rw [if_neg c0]
    rw [e, if_pos (by decide)]
    try (unfold szr; rw [if_neg (by omega)])
  have e0 : szr (siz_LBranch a.Branches) n = n - (siz_LBranch a.Branches : Int) := by unfold szr; rw [if_pos c0]
  rw [e0, if_neg (by simp; omega)]
  try (unfold szr; rw [if_pos (by omega)])
  try (congr 1; omega)
theorem laws_toBranch_F_eq (a : BranchT) (ha : siz_Branch a ≤ 4194304) : laws_toBranch_F a = some a := by
  unfold siz_Branch at ha
  unfold laws_toBranch_F
  rw [laws_toEventS_eq _ (by omega)]
  simp only [Option.bind_some]
  all_goals rfl
theorem laws_toBranchS_eq (a : (List BranchT)) (ha : siz_LBranch a ≤ 4194304) : laws_toBranchS a = some a := by
  unfold siz_LBranch at ha
  unfold laws_toBranchS
  rw [guard_pos (by omega)]
  have key := fill_loop (step := laws_toBranchS_L1 a) (fun i l => (⟨i, l⟩ : laws_toBranchS_G1)) a (fun x => x) (fun l => (⟨l⟩ : laws_toBranchS_P1_0)) (fun i l hi hl => ?_) (fun l hl => ?_) (List.replicate a.length (⟨[]⟩ : BranchT)) (by simp)
  · rw [key]; simp
  · unfold laws_toBranchS_L1
    have hm : siz_Branch (nth a i) ≤ 4194304 := Nat.le_trans (sumN_mem siz_Branch (nth_mem hi)) (by omega)
    simp (disch := omega) only [decide_eq_true_eq, if_pos, guard_pos, Int.toNat_natCast, wI_id]
    rw [laws_toBranch_F_eq _ hm]
    simp (disch := omega) only [Option.bind_some, guard_pos]
    rfl
  · unfold laws_toBranchS_L1
    rw [if_neg (by simp)]
theorem laws_toTellings_eq (a : TellingsT) (ha : siz_Tellings a ≤ 4194304) : laws_toTellings a = some a := by
  unfold siz_Tellings at ha
  unfold laws_toTellings
  rw [laws_toBranchS_eq _ (by omega)]
  simp only [Option.bind_some]
  all_goals rfl
theorem laws_eqBranch_eq (a b : BranchT) (ha : lk_Branch a) : laws_eqBranch a b = some (decide (a = b)) := by
  unfold lk_Branch at ha
  unfold laws_eqBranch
  rw [laws_eqEventS_eq _ _ (ha)]
  obtain ⟨x0⟩ := a
  obtain ⟨y0⟩ := b
  simp only [sEq, Option.bind_some, BranchT.mk.injEq]
  by_cases h0 : x0 = y0
  rotate_left
  · simp [h0]
  simp [h0]
theorem laws_eqBranchS_eq (a b : (List BranchT)) (ha : lk_LBranch a) : laws_eqBranchS a b = some (decide (a = b)) := by
  obtain ⟨ha1, ha2⟩ := ha
  unfold laws_eqBranchS
  by_cases hl : a.length = b.length
  · rw [if_neg (by simp [hl])]
    have key := eq_loop (step := laws_eqBranchS_L1 a b) (fun i => (⟨i⟩ : laws_eqBranchS_G1)) a b hl (fun i hi => ?_) ?_
    · rw [key]; by_cases h : a = b <;> simp [h]
    · have hm := ha2 _ (nth_mem hi)
      unfold laws_eqBranchS_L1
      simp (disch := omega) only [decide_eq_true_eq, if_pos, guard_pos, Int.toNat_natCast, wI_id]
      rw [laws_eqBranch_eq _ _ hm]; simp only [Option.bind_some]
      by_cases h : nth a i = nth b i <;> simp [h]
    · unfold laws_eqBranchS_L1
      rw [if_neg (by simp)]
  · rw [if_pos (by simp; omega)]
    simp [show a ≠ b from fun h => hl (by rw [h])]
theorem laws_eqTellings_eq (a b : TellingsT) (ha : lk_Tellings a) : laws_eqTellings a b = some (decide (a = b)) := by
  unfold lk_Tellings at ha
  unfold laws_eqTellings
  rw [laws_eqBranchS_eq _ _ (ha)]
  obtain ⟨x0⟩ := a
  obtain ⟨y0⟩ := b
  simp only [sEq, Option.bind_some, TellingsT.mk.injEq]
  by_cases h0 : x0 = y0
  rotate_left
  · simp [h0]
  simp [h0]
end Go.TL

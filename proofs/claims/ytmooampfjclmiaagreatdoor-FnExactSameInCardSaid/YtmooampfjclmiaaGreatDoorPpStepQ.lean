import Derived.Test.YtmooampfjclmiaaGreatDoorPpR2
set_option linter.unusedSimpArgs false
set_option linter.unusedVariables false
set_option linter.unusedVariables false
set_option linter.unusedSimpArgs false
namespace Go.TL
def zeroQ : QueueT := ⟨0, [], 0, [], []⟩
def stepQ (q : QueueT) (s : LineStepT) : QueueT × Bool := if goodQ q = true ∧ (stepP q s).2 = true then ((stepP q s).1, true) else (zeroQ, false)

theorem good_small {q : QueueT} (h : goodQ q = true) : smallQ q := by
  unfold goodQ at h
  simp only [Bool.and_eq_true, decide_eq_true_eq] at h
  obtain ⟨⟨⟨⟨⟨⟨⟨h1, h2⟩, h3⟩, h4⟩, h5⟩, h6⟩, h7⟩, h8⟩ := h
  refine ⟨?_, ?_, ?_, ?_, ?_⟩ <;> omega
theorem step_len (q : QueueT) (s : LineStepT) : (stepP q s).1.Sent.length ≤ q.Sent.length + 1 ∧ (stepP q s).1.Got.length ≤ q.Got.length + 1 ∧ (stepP q s).1.Line.length ≤ q.Line.length + 2 := by
  have hput : ∀ (q : QueueT) (p : PacketT), (putP q p).1.Sent.length = q.Sent.length ∧ (putP q p).1.Got.length = q.Got.length ∧ (putP q p).1.Line.length ≤ q.Line.length + 1 := fun q p => by
    unfold putP; split <;> simp
  have hwo : ∀ (l : List PacketT) (k : Nat), (without l k).length ≤ l.length := fun l k => by
    unfold without; rw [List.length_append, List.length_take, List.length_drop]; omega
  have htook : ∀ (q : QueueT) (p : PacketT) (l : List PacketT), (tookP q p l).Sent.length = q.Sent.length ∧ (tookP q p l).Got.length ≤ q.Got.length + 1 ∧ (tookP q p l).Line.length ≤ l.length + 1 := fun q p l => by
    unfold tookP
    split
    · simp
    · split
      · have := hput ⟨q.Window, q.Sent, q.Base, q.Got ++ [p.Text], l⟩ ⟨true, ((q.Got.length + 1 : Nat) : Int), ByteArray.empty⟩
        simp only [List.length_append, List.length_cons, List.length_nil] at this
        refine ⟨this.1, by omega, this.2.2⟩
      · have := hput ⟨q.Window, q.Sent, q.Base, q.Got, l⟩ ⟨true, ((q.Got.length : Nat) : Int), ByteArray.empty⟩
        refine ⟨this.1, by simp only at this; omega, this.2.2⟩
  unfold stepP
  split
  · split
    · simp
    · simp
  split
  · split
    · have := hput q ⟨false, s.K, nth q.Sent s.K.toNat⟩
      refine ⟨by omega, by omega, by omega⟩
    · simp
  split
  · split
    · have := hput q (nth q.Line s.K.toNat)
      refine ⟨by omega, by omega, by omega⟩
    split
    · have h1 := htook q (nth q.Line s.K.toNat) (without q.Line s.K.toNat)
      have h2 := hwo q.Line s.K.toNat
      refine ⟨by simp only; omega, by simp only; omega, by simp only; omega⟩
    split
    · have h2 := hwo q.Line s.K.toNat
      refine ⟨by simp only; omega, by simp only; omega, by simp only; omega⟩
    · simp
  · simp
theorem stepQ_len (q : QueueT) (s : LineStepT) : (stepQ q s).1.Sent.length ≤ 1001 ∧ (stepQ q s).1.Got.length ≤ 1001 ∧ (stepQ q s).1.Line.length ≤ 1002 := by
  unfold stepQ
  split
  · rename_i h
    obtain ⟨_, _, h1, h2, h3⟩ := good_small h.1
    have := step_len q s
    refine ⟨by simp only; omega, by simp only; omega, by simp only; omega⟩
  · simp [zeroQ]
theorem lkQ {q : QueueT} (h1 : q.Sent.length ≤ 1000000) (h2 : q.Got.length ≤ 1000000) (h3 : q.Line.length ≤ 1000000) : lk_Queue q := by
  have hS : ∀ (l : List ByteArray), ∀ y ∈ l, lk_S y := fun _ _ _ => trivial
  refine ⟨trivial, ⟨by omega, hS _⟩, trivial, ⟨by omega, hS _⟩, ⟨by omega, fun y _ => ⟨trivial, trivial, trivial⟩⟩⟩

theorem own_eq (q : QueueT) (h1 : q.Sent.length ≤ 1000000) (h2 : q.Got.length ≤ 1000000) (h3 : q.Line.length ≤ 1000000) : spec_l14Own q = some q := by
  unfold spec_l14Own
  rw [guard_pos (by omega), guard_pos (by omega), guard_pos (by omega)]
  rfl
theorem clone_eq (q : QueueT) (h1 : q.Sent.length ≤ 1000000) (h2 : q.Got.length ≤ 1000000) (h3 : q.Line.length ≤ 1000000) : impl_cloneQueue q = some q := by
  unfold impl_cloneQueue slices_Clone_string slices_Clone_impl_Packet
  rw [guard_pos (by omega), guard_pos (by omega), guard_pos (by omega)]
  rfl
theorem spec_StepQueue_eq (q : QueueT) (s : LineStepT) (hs : q.Sent.length ≤ 9223372036854775807) (hg : q.Got.length ≤ 9223372036854775807) (hl : q.Line.length ≤ 9223372036854775807) : spec_StepQueue q s = some (stepQ q s) := by
  unfold spec_StepQueue stepQ
  rw [spec_GoodQueue_eq _ hs hg hl]
  simp only [Option.bind_some]
  by_cases h : goodQ q = true
  rotate_left
  · rw [if_pos (by simpa using h), if_neg (by simp [h])]; rfl
  have hq := good_small h
  obtain ⟨_, _, h1, h2, h3⟩ := good_small h
  rw [if_neg (by simp [h]), own_eq _ (by omega) (by omega) (by omega)]
  simp only [Option.bind_some]
  rw [spec_step_eq _ _ hq]
  simp only [Option.bind_some]
  by_cases h4 : (stepP q s).2 = true
  · rw [if_neg (by simp [h4]), if_pos ⟨h, h4⟩]
  · rw [if_pos (by simp [h4]), if_neg (by simp [h4])]; rfl
theorem impl_StepQueue_eq (q : QueueT) (s : LineStepT) (hs : q.Sent.length ≤ 9223372036854775807) (hg : q.Got.length ≤ 9223372036854775807) (hl : q.Line.length ≤ 9223372036854775807) : impl_StepQueue q s = some (stepQ q s) := by
  unfold impl_StepQueue stepQ
  rw [impl_GoodQueue_eq _ hs hg hl]
  simp only [Option.bind_some]
  by_cases h : goodQ q = true
  rotate_left
  · rw [if_pos (by simpa using h), if_neg (by simp [h])]; rfl
  have hq := good_small h
  obtain ⟨_, _, h1, h2, h3⟩ := good_small h
  rw [if_neg (by simp [h]), clone_eq _ (by omega) (by omega) (by omega)]
  simp only [Option.bind_some]
  rw [impl_step_eq _ _ hq]
  simp only [Option.bind_some]
  by_cases h4 : (stepP q s).2 = true
  · rw [if_neg (by simp [h4]), if_pos ⟨h, h4⟩]
  · rw [if_pos (by simp [h4]), if_neg (by simp [h4])]; rfl

theorem szr_ok' {s : Nat} {n : Int} (h : (s : Int) ≤ n) : szr s n = n - s := by unfold szr; rw [if_pos h]
theorem step_holds (q : QueueT) (s : LineStepT) (hq : ok_Queue q) (hs : ok_LineStep s) : laws_FnExactStepQueue q s = some true := by
  unfold laws_FnExactStepQueue
  rw [laws_szQueue_eq _ _ hq (by omega) (by omega)]
  simp only [Option.bind_some]
  by_cases h : (siz_Queue q : Int) ≤ 1048576
  rotate_left
  · rw [if_pos (decide_eq_true (szr_no h))]
  rw [if_neg (by simpa using szr_ok h), szr_ok' h, laws_szLineStep_eq _ _ hs (by omega) (by omega)]
  simp only [Option.bind_some]
  by_cases h' : (siz_LineStep s : Int) ≤ 1048576 - (siz_Queue q : Int)
  rotate_left
  · rw [if_pos (decide_eq_true (szr_no h'))]
  rw [if_neg (by simpa using szr_ok h'), laws_toQueue_eq _ (by omega), laws_toLineStep_eq _ (by omega)]
  have hk := lk_of_Queue hq
  have h1 := hk.2.1.1
  have h2 := hk.2.2.2.1.1
  have h3 := hk.2.2.2.2.1
  have hz : q.Sent.length + q.Got.length + q.Line.length ≤ 1048576 := by
    unfold siz_Queue siz_LS siz_LPacket at h; omega
  obtain ⟨r1, r2, r3⟩ := stepQ_len q s
  simp only [Option.bind_some]
  rw [spec_StepQueue_eq _ _ h1 h2 h3]
  simp only [Option.bind_some]
  rw [impl_StepQueue_eq _ _ h1 h2 h3]
  simp only [Option.bind_some]
  have hkr : lk_Queue (stepQ q s).1 := lkQ (by omega) (by omega) (by omega)
  rw [laws_eqQueue_eq _ _ hkr, laws_eqQueue_eq _ _ hk]
  simp only [Option.bind_some, decide_true, Bool.not_true, beq_self_eq_true, Bool.false_eq_true, if_false]
  rw [mark_Queue_eq q 1 (by omega) (by omega) (by omega) (by omega) (by omega), mark_Queue_eq (stepQ q s).1 1 (by omega) (by omega) (by omega) (by omega) (by omega)]
  simp only [Option.bind_some]
  rw [guard_pos (marks_length ..), guard_pos (marks_length ..), guard_pos (marks_length ..), if_neg (by simp; omega)]
  simp only [Option.bind_some, Bool.false_eq_true, if_false]
  rw [guard_pos (marks_length ..), guard_pos (marks_length ..), guard_pos (marks_length ..), held_Queue_eq _ _ _ _ _ 1 (by omega) (by omega) (by omega) (by omega) (by omega)]
  simp only [Option.bind_some]
  rw [if_neg (by simp; omega), if_neg (by simp), if_neg (by simp; omega), if_neg (by simp)]
end Go.TL

import Derived.Test.YtmooampfjclmiaaGreatDoorPpMark
set_option linter.unusedSimpArgs false
set_option linter.unusedVariables false
set_option linter.unusedVariables false
set_option linter.unusedSimpArgs false
namespace Go.TL

def putP (q : QueueT) (p : PacketT) : QueueT × Bool := if q.Line.length = 40 then (q, false) else (⟨q.Window, q.Sent, q.Base, q.Got, q.Line ++ [p]⟩, true)
def without (l : List PacketT) (k : Nat) : List PacketT := l.take k ++ l.drop (k + 1)
def tookP (q : QueueT) (p : PacketT) (l : List PacketT) : QueueT :=
  if p.Ack = true then ⟨q.Window, q.Sent, max q.Base p.No, q.Got, l⟩
  else if p.No = q.Got.length then (putP ⟨q.Window, q.Sent, q.Base, q.Got ++ [p.Text], l⟩ ⟨true, ((q.Got.length + 1 : Nat) : Int), ByteArray.empty⟩).1
  else (putP ⟨q.Window, q.Sent, q.Base, q.Got, l⟩ ⟨true, ((q.Got.length : Nat) : Int), ByteArray.empty⟩).1
def stepP (q : QueueT) (s : LineStepT) : QueueT × Bool :=
  if s.Kind = 1 then (if q.Sent.length = 40 ∨ 12 < s.Text.size then (q, false) else (⟨q.Window, q.Sent ++ [s.Text], q.Base, q.Got, q.Line⟩, true))
  else if s.Kind = 2 then (if q.Base ≤ s.K ∧ s.K < q.Base + q.Window ∧ s.K < q.Sent.length then putP q ⟨false, s.K, nth q.Sent s.K.toNat⟩ else (q, false))
  else if 0 ≤ s.K ∧ s.K < q.Line.length then
    (if s.Kind = 5 then putP q (nth q.Line s.K.toNat)
    else if s.Kind = 3 then (tookP q (nth q.Line s.K.toNat) (without q.Line s.K.toNat), true)
    else if s.Kind = 4 then (⟨q.Window, q.Sent, q.Base, q.Got, without q.Line s.K.toNat⟩, true)
    else (q, false))
  else (q, false)

/-- Small enough to be reckoned with. -/
def smallQ (q : QueueT) : Prop := (0 ≤ q.Window ∧ q.Window ≤ 1000) ∧ (0 ≤ q.Base ∧ q.Base ≤ 1000) ∧ q.Sent.length ≤ 1000 ∧ q.Got.length ≤ 1000 ∧ q.Line.length ≤ 1000

theorem spec_l14Put_eq (q : QueueT) (p : PacketT) (h : q.Line.length ≤ 1000) : spec_l14Put_www q p = some (putP q p) := by
  unfold spec_l14Put_www putP
  by_cases hc : q.Line.length = 40
  · rw [if_pos (by simp; omega), if_pos hc]
  · rw [if_neg (by simp; omega), if_neg hc, guard_pos (by omega)]
theorem impl_put_eq (q : QueueT) (p : PacketT) (h : q.Line.length ≤ 1000) : impl_Queue_put_o q p = some ((putP q p).2, (putP q p).1) := by
  unfold impl_Queue_put_o putP
  by_cases hc : q.Line.length = 40
  · rw [if_pos (by simp; omega), if_pos hc]
  · rw [if_neg (by simp; omega), if_neg hc, guard_pos (by omega)]
theorem put_keeps (q : QueueT) (p : PacketT) : (putP q p).1.Sent = q.Sent ∧ (putP q p).1.Got = q.Got := by
  unfold putP; split <;> exact ⟨rfl, rfl⟩
theorem queue_eta (q : QueueT) (s g : List ByteArray) (hs : q.Sent = s) (hg : q.Got = g) : (⟨q.Window, s, q.Base, g, q.Line⟩ : QueueT) = q := by subst hs; subst hg; rfl

theorem spec_without_eq (l : List PacketT) (k : Int) (h : 0 ≤ k ∧ k < l.length) (hl : l.length ≤ 1000) : spec_l14Without l k = some (without l k.toNat) := by
  unfold spec_l14Without without
  rw [wI_id (by omega), guard_pos (by omega), guard_pos (by rw [List.length_take]; omega), guard_pos (by omega), guard_pos (by rw [List.length_take, List.length_drop]; omega)]
  rw [show (k + 1).toNat = k.toNat + 1 by omega]
  rfl
theorem impl_delete_eq (l : List PacketT) (k : Int) (h : 0 ≤ k ∧ k < l.length) (hl : l.length ≤ 1000) : slices_Delete_impl_Packet_w l k (wI (k + 1)) = some (without l k.toNat) := by
  unfold slices_Delete_impl_Packet_w without
  rw [wI_id (by omega), guard_pos (by omega), show (k + 1).toNat = k.toNat + 1 by omega]
theorem without_len (l : List PacketT) (k : Nat) (h : k < l.length) : (without l k).length + 1 = l.length := by
  unfold without; rw [List.length_append, List.length_take, List.length_drop]; omega

theorem spec_step_eq (q : QueueT) (s : LineStepT) (h : smallQ q) : spec_l14Step_www q s = some (stepP q s) := by
  obtain ⟨hw, hb, hs, hg, hl⟩ := h
  unfold spec_l14Step_www stepP
  by_cases c1 : s.Kind = 1
  · rw [if_pos (by simpa using c1), if_pos c1]
    by_cases c2 : q.Sent.length = 40
    · rw [if_pos (by simp; omega), if_pos (.inl c2)]; rfl
    · rw [if_neg (by simp; omega)]
      by_cases c3 : 12 < s.Text.size
      · rw [if_pos (.inr c3)]; simp only [Option.bind_some]; rw [if_pos (by simp; omega)]
      · rw [if_neg (by omega)]; simp only [Option.bind_some]; rw [if_neg (by simp; omega), guard_pos (by omega)]
  rw [if_neg (by simpa using c1), if_neg c1]
  by_cases c2 : s.Kind = 2
  · rw [if_pos (by simpa using c2), if_pos c2, spec_l1In_eq, wI_id (n := q.Base + q.Window) (by omega), wI_id (by omega)]
    simp only [Option.bind_some]
    by_cases c3 : q.Base ≤ s.K ∧ s.K ≤ q.Base + q.Window - 1
    · rw [decide_eq_true c3, if_neg (by simp)]
      simp only [Option.bind_some]
      by_cases c4 : s.K ≥ ((q.Sent.length : Nat) : Int)
      · rw [if_pos (decide_eq_true c4), if_neg (by omega)]
      · rw [if_neg (by simpa using c4), if_pos (by omega), guard_pos (by omega), spec_l14Put_eq _ _ hl]
        simp only [Option.bind_some]
        rw [queue_eta _ _ _ (put_keeps _ _).1 (put_keeps _ _).2]
    · rw [decide_eq_false c3, if_pos (by simp)]
      simp only [Option.bind_some]
      rw [if_pos trivial, if_neg (by omega)]
  rw [if_neg (by simpa using c2), if_neg c2, spec_l1In_eq, wI_id (by omega)]
  simp only [Option.bind_some]
  by_cases c3 : 0 ≤ s.K ∧ s.K < q.Line.length
  rotate_left
  · rw [decide_eq_false (by omega), if_pos (by simp), if_neg c3]
  rw [decide_eq_true (by omega), if_neg (by simp), if_pos c3, guard_pos (by omega)]
  by_cases c4 : s.Kind = 5
  · rw [if_pos (by simpa using c4), if_pos c4, spec_l14Put_eq _ _ hl]
    simp only [Option.bind_some]
    rw [queue_eta _ _ _ (put_keeps _ _).1 (put_keeps _ _).2]
  rw [if_neg (by simpa using c4), if_neg c4]
  have hwl := without_len q.Line s.K.toNat (by omega)
  by_cases c5 : s.Kind = 3
  · rw [if_pos (by simpa using c5), if_pos c5]
    simp only [Option.bind_some, if_true]
    rw [spec_without_eq _ _ c3 hl]
    simp only [Option.bind_some]
    rw [if_neg (by simp; omega)]
    unfold tookP
    by_cases c6 : (nth q.Line s.K.toNat).Ack = true
    · rw [if_pos c6, if_pos c6]
      by_cases c7 : (nth q.Line s.K.toNat).No > q.Base
      · rw [if_pos (decide_eq_true c7), show max q.Base (nth q.Line s.K.toNat).No = (nth q.Line s.K.toNat).No by omega]
      · rw [if_neg (by simpa using c7), show max q.Base (nth q.Line s.K.toNat).No = q.Base by omega]
    · rw [if_neg c6, if_neg c6]
      by_cases c7 : (nth q.Line s.K.toNat).No = q.Got.length
      · rw [if_pos (by simpa using c7), if_pos c7, guard_pos (by omega), spec_l14Put_eq _ _ (by simp only; omega)]
        simp only [Option.bind_some]
        rw [queue_eta _ _ _ (put_keeps _ _).1 (put_keeps _ _).2]
      · rw [if_neg (by simpa using c7), if_neg c7, spec_l14Put_eq _ _ (by simp only; omega)]
        simp only [Option.bind_some]
        rw [queue_eta _ _ _ (put_keeps _ _).1 (put_keeps _ _).2]
  rw [if_neg (by simpa using c5), if_neg c5]
  simp only [Option.bind_some]
  by_cases c6 : s.Kind = 4
  · rw [if_pos (by simpa using c6), if_pos c6, spec_without_eq _ _ c3 hl]
    simp only [Option.bind_some]
    rw [if_pos (by simpa using c6)]
  · rw [if_neg (by simpa using c6), if_neg c6]

theorem impl_step_eq (q : QueueT) (s : LineStepT) (h : smallQ q) : impl_Queue_step_o q s = some ((stepP q s).2, (stepP q s).1) := by
  obtain ⟨hw, hb, hs, hg, hl⟩ := h
  unfold impl_Queue_step_o stepP
  by_cases c1 : s.Kind = 1
  · rw [if_pos (by simpa using c1), if_pos c1]
    by_cases c2 : q.Sent.length = 40
    · rw [if_pos (by simp; omega), if_pos (.inl c2)]; rfl
    · rw [if_neg (by simp; omega)]
      by_cases c3 : 12 < s.Text.size
      · rw [if_pos (.inr c3)]; simp only [Option.bind_some]; rw [if_pos (by simp; omega)]
      · rw [if_neg (by omega)]; simp only [Option.bind_some]; rw [if_neg (by simp; omega), guard_pos (by omega)]
  rw [if_neg (by simpa using c1), if_neg c1]
  by_cases c2 : s.Kind = 2
  · rw [if_pos (by simpa using c2), if_pos c2]
    unfold impl_Queue_send_o
    rw [impl_in_eq, wI_id (n := q.Base + q.Window) (by omega), wI_id (by omega)]
    simp only [Option.bind_some]
    by_cases c3 : q.Base ≤ s.K ∧ s.K ≤ min (q.Base + q.Window) ((q.Sent.length : Nat) : Int) - 1
    · rw [if_pos (decide_eq_true c3), if_pos (by omega), guard_pos (by omega), impl_put_eq _ _ hl]
      simp only [Option.bind_some]
      rw [queue_eta _ _ _ (put_keeps _ _).1 (put_keeps _ _).2]
    · rw [if_neg (by simpa using c3), if_neg (by omega)]
      rfl
  rw [if_neg (by simpa using c2), if_neg c2, impl_in_eq]
  simp only [Option.bind_some]
  by_cases ck : 3 ≤ s.Kind ∧ s.Kind ≤ 5
  rotate_left
  · rw [decide_eq_false ck, if_pos (by simp)]
    simp only [Option.bind_some]
    rw [if_pos trivial]
    by_cases c3 : 0 ≤ s.K ∧ s.K < q.Line.length
    · rw [if_pos c3, if_neg (by omega), if_neg (by omega), if_neg (by omega)]
    · rw [if_neg c3]
  rw [decide_eq_true ck, if_neg (by simp), impl_in_eq, wI_id (by omega)]
  simp only [Option.bind_some]
  by_cases c3 : 0 ≤ s.K ∧ s.K < q.Line.length
  rotate_left
  · rw [decide_eq_false (by omega), if_pos (by simp), if_neg c3]
  rw [decide_eq_true (by omega), if_neg (by simp), if_pos c3]
  have hwl := without_len q.Line s.K.toNat (by omega)
  by_cases c5 : s.Kind = 3
  · rw [if_pos (by simpa using c5), if_neg (by omega), if_pos c5]
    unfold impl_Queue_take_o
    rw [guard_pos (by omega), impl_delete_eq _ _ c3 hl]
    simp only [Option.bind_some]
    unfold tookP
    by_cases c6 : (nth q.Line s.K.toNat).Ack = true
    · rw [if_pos c6, if_pos c6]; rfl
    · rw [if_neg c6, if_neg c6]
      by_cases c7 : (nth q.Line s.K.toNat).No = q.Got.length
      · rw [if_pos (by simpa using c7), if_pos c7, guard_pos (by omega), impl_put_eq _ _ (by simp only; omega)]
        simp only [Option.bind_some]
        rw [queue_eta _ _ _ (put_keeps _ _).1 (put_keeps _ _).2]
      · rw [if_neg (by simpa using c7), if_neg c7, impl_put_eq _ _ (by simp only; omega)]
        simp only [Option.bind_some]
        rw [queue_eta _ _ _ (put_keeps _ _).1 (put_keeps _ _).2]
  rw [if_neg (by simpa using c5)]
  by_cases c6 : s.Kind = 4
  · rw [if_pos (by simpa using c6), if_neg (by omega), if_neg c5, if_pos c6, impl_delete_eq _ _ c3 hl]
    rfl
  · rw [if_neg (by simpa using c6), guard_pos (by omega), if_pos (by omega), impl_put_eq _ _ hl]
    simp only [Option.bind_some]
    rw [queue_eta _ _ _ (put_keeps _ _).1 (put_keeps _ _).2]
end Go.TL

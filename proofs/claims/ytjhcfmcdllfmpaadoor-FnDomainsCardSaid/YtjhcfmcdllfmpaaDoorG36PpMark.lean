import Derived.Test.YtjhcfmcdllfmpaaDoorPlMark
import Derived.Test.YtjhcfmcdllfmpaaDoorG19PlR1
import Derived.Test.YtjhcfmcdllfmpaaDoorG35PpR1
set_option linter.unusedSimpArgs false
set_option linter.unusedVariables false
set_option linter.unusedVariables false
set_option linter.unusedSimpArgs false
namespace Go.TL

theorem bstr_one (x : Int) : (bstr [x]).size = 1 := rfl

theorem markText_some (k : Int) (hk : 0 ≤ k) (hb : k ≤ 4611686018427387904) : ∃ s, laws_markText k = some s := by
  have key : okO (fun _ => True) (laws_markText k) := by
    unfold laws_markText
    refine okO.ite (fun _ => okO.some trivial) (fun _ => ?_)
    refine okO.bind (P := fun y => y.t3.size ≤ 4611686018427387904) ?_ fun y hy => ?_
    · refine okO.loop (fun g => 0 ≤ g.t0 ∧ (g.t3.size : Int) + g.t0 ≤ 4611686018427387904) (fun g => g.t0.toNat) ⟨hk, by have : ByteArray.empty.size = 0 := rfl; simp only [this]; omega⟩ fun g ⟨h1, h2⟩ => ?_
      unfold laws_markText_L1
      refine okO.ite (fun hc => ?_) (fun _ => okO.some (by simp only; omega))
      have hc' : g.t0 > 0 := by simpa using hc
      refine okO.guard (by rw [bstr_one]; omega) (okO.some ?_)
      have hd : g.t0.tdiv 10 = g.t0 / 10 := Int.tdiv_eq_ediv_of_nonneg (by omega)
      have hw : wI (g.t0.tdiv 10) = g.t0 / 10 := by rw [hd, wI_id (by omega)]
      simp only [hw, ByteArray.size_append, bstr_one]
      omega
    · refine okO.guard ?_ (okO.some trivial)
      have : (⟨#[109]⟩ : ByteArray).size = 1 := rfl
      omega
  obtain ⟨s, hs, _⟩ := key
  exact ⟨s, hs⟩
noncomputable def mtext (k : Int) : ByteArray := (laws_markText k).getD ByteArray.empty
theorem markText_eq (k : Int) (hk : 0 ≤ k) (hb : k ≤ 4611686018427387904) : laws_markText k = some (mtext k) := by
  obtain ⟨s, hs⟩ := markText_some k hk hb
  unfold mtext; rw [hs]; rfl

noncomputable def mPacket (k : Int) : PacketT := ⟨k.tmod 3 == 0, k + 1, mtext (k + 2)⟩

theorem mark_StringS_eq (l : List ByteArray) (k : Int) (hk : 0 ≤ k) (hl : l.length ≤ 1099511627776) (hb : k + ((1 * l.length : Nat) : Int) ≤ 1152921504606846976) :
    laws_markStringS_w l k = some (k + ((1 * l.length : Nat) : Int), marks mtext 1 k l.length) := by
  unfold laws_markStringS_w
  have key := mark_loop (step := laws_markStringS_w_L1) (fun i k l => (⟨k, i, l⟩ : laws_markStringS_w_G1)) 1 mtext l.length 1152921504606846976 (fun k l => (⟨k, l⟩ : laws_markStringS_w_P1_0)) (fun i k l' hi hl' h0 h1 => ?_) (fun k l' hl' => ?_) k l rfl hk hb
  · rw [key]; rfl
  · unfold laws_markStringS_w_L1
    rw [if_pos (by simp; omega), markText_eq k h0 (by omega)]
    simp (disch := omega) only [Option.bind_some, guard_pos, Int.toNat_natCast, wI_id]
    rfl
  · unfold laws_markStringS_w_L1
    rw [if_neg (by simp; omega)]

theorem mark_PacketS_eq (l : List PacketT) (k : Int) (hk : 0 ≤ k) (hl : l.length ≤ 1099511627776) (hb : k + ((3 * l.length : Nat) : Int) ≤ 1152921504606846976) :
    laws_markPacketS_w l k = some (k + ((3 * l.length : Nat) : Int), marks mPacket 3 k l.length) := by
  unfold laws_markPacketS_w
  have key := mark_loop (step := laws_markPacketS_w_L1) (fun i k l => (⟨k, i, l⟩ : laws_markPacketS_w_G1)) 3 mPacket l.length 1152921504606846976 (fun k l => (⟨k, l⟩ : laws_markPacketS_w_P1_0)) (fun i k l' hi hl' h0 h1 => ?_) (fun k l' hl' => ?_) k l rfl hk hb
  · rw [key]; rfl
  · unfold laws_markPacketS_w_L1
    have e1 : wI (k + 1) = k + 1 := wI_id (by omega)
    have e2 : wI (k + 1 + 1) = k + 2 := by rw [wI_id (by omega)]; omega
    have e3 : wI (k + 2 + 1) = k + 3 := by rw [wI_id (by omega)]; omega
    have e4 : wI ((i : Int) + 1) = ((i + 1 : Nat) : Int) := by rw [wI_id (by omega)]; omega
    simp only [e1, e2, e3, e4]
    rw [if_pos (by simp; omega), markText_eq (k + 2) (by omega) (by omega)]
    simp (disch := omega) only [Option.bind_some, guard_pos, Int.toNat_natCast, nth_set_same, List.set_set, List.length_set]
    rfl
  · unfold laws_markPacketS_w_L1
    rw [if_neg (by simp; omega)]

theorem mark_Queue_eq (q : QueueT) (k : Int) (hk : 0 ≤ k) (h1 : q.Sent.length ≤ 1099511627776) (h2 : q.Got.length ≤ 1099511627776) (h3 : q.Line.length ≤ 1099511627776) (hb : k ≤ 1099511627776) :
    laws_markQueue_www q k = some (k + ((1 * q.Sent.length : Nat) : Int) + ((1 * q.Got.length : Nat) : Int) + ((3 * q.Line.length : Nat) : Int), marks mtext 1 k q.Sent.length, marks mtext 1 (k + ((1 * q.Sent.length : Nat) : Int)) q.Got.length, marks mPacket 3 (k + ((1 * q.Sent.length : Nat) : Int) + ((1 * q.Got.length : Nat) : Int)) q.Line.length) := by
  unfold laws_markQueue_www
  rw [mark_StringS_eq _ _ hk h1 (by omega)]
  simp only [Option.bind_some]
  rw [guard_pos (marks_length ..), mark_StringS_eq _ _ (by omega) h2 (by omega)]
  simp only [Option.bind_some]
  rw [guard_pos (marks_length ..), mark_PacketS_eq _ _ (by omega) h3 (by omega)]
  simp only [Option.bind_some]
  rw [guard_pos (marks_length ..)]

theorem held_StringS_eq (n : Nat) (k : Int) (hk : 0 ≤ k) (hl : n ≤ 1099511627776) (hb : k + ((1 * n : Nat) : Int) ≤ 1152921504606846976) :
    laws_heldStringS (marks mtext 1 k n) k = some (k + ((1 * n : Nat) : Int)) := by
  unfold laws_heldStringS
  have key := held_loop (step := laws_heldStringS_L1 (marks mtext 1 k n)) (fun i k => (⟨k, i⟩ : laws_heldStringS_G1)) 1 mtext n 1152921504606846976 (fun k => (⟨k⟩ : laws_heldStringS_P1_1)) k (fun i k' hi hn h0 h1 => ?_) (fun k' => ?_) hk hb
  · rw [key]; rfl
  · unfold laws_heldStringS_L1
    rw [if_pos (by simp [marks_length]; omega), markText_eq k' h0 (by omega)]
    simp (disch := simp only [marks_length]; omega) only [Option.bind_some, guard_pos, Int.toNat_natCast]
    rw [hn, if_neg (by simp), wI_id (by omega), wI_id (by omega)]
    rfl
  · unfold laws_heldStringS_L1
    rw [if_neg (by simp [marks_length])]

theorem held_PacketS_eq (n : Nat) (k : Int) (hk : 0 ≤ k) (hl : n ≤ 1099511627776) (hb : k + ((3 * n : Nat) : Int) ≤ 1152921504606846976) :
    laws_heldPacketS (marks mPacket 3 k n) k = some (k + ((3 * n : Nat) : Int)) := by
  unfold laws_heldPacketS
  have key := held_loop (step := laws_heldPacketS_L1 (marks mPacket 3 k n)) (fun i k => (⟨k, i⟩ : laws_heldPacketS_G1)) 3 mPacket n 1152921504606846976 (fun k => (⟨k⟩ : laws_heldPacketS_P1_1)) k (fun i k' hi hn h0 h1 => ?_) (fun k' => ?_) hk hb
  · rw [key]; rfl
  · unfold laws_heldPacketS_L1
    have e1 : wI (k' + 1) = k' + 1 := wI_id (by omega)
    have e2 : wI (k' + 1 + 1) = k' + 2 := by rw [wI_id (by omega)]; omega
    have e3 : wI (k' + 2 + 1) = k' + 3 := by rw [wI_id (by omega)]; omega
    have e4 : wI ((i : Int) + 1) = ((i + 1 : Nat) : Int) := by rw [wI_id (by omega)]; omega
    simp only [e1, e2, e3, e4]
    rw [if_pos (by simp [marks_length]; omega), markText_eq (k' + 2) (by omega) (by omega)]
    simp (disch := simp only [marks_length]; omega) only [Option.bind_some, guard_pos, Int.toNat_natCast]
    rw [if_neg (by simp [hn, mPacket]), if_neg (by simp [hn, mPacket]), if_neg (by simp [hn, mPacket])]
    rfl
  · unfold laws_heldPacketS_L1
    rw [if_neg (by simp [marks_length])]

theorem held_Queue_eq (w b : Int) (n1 n2 n3 : Nat) (k : Int) (hk : 0 ≤ k) (h1 : n1 ≤ 1099511627776) (h2 : n2 ≤ 1099511627776) (h3 : n3 ≤ 1099511627776) (hb : k ≤ 1099511627776) :
    laws_heldQueue ⟨w, marks mtext 1 k n1, b, marks mtext 1 (k + ((1 * n1 : Nat) : Int)) n2, marks mPacket 3 (k + ((1 * n1 : Nat) : Int) + ((1 * n2 : Nat) : Int)) n3⟩ k =
      some (k + ((1 * n1 : Nat) : Int) + ((1 * n2 : Nat) : Int) + ((3 * n3 : Nat) : Int)) := by
  unfold laws_heldQueue
  simp only
  rw [held_StringS_eq _ _ hk h1 (by omega)]
  simp only [Option.bind_some]
  rw [if_neg (by simp; omega), held_StringS_eq _ _ (by omega) h2 (by omega)]
  simp only [Option.bind_some]
  rw [if_neg (by simp; omega), held_PacketS_eq _ _ (by omega) h3 (by omega)]
  simp only [Option.bind_some]
  rw [if_neg (by simp; omega)]
end Go.TL
set_option linter.unusedVariables false
set_option linter.unusedSimpArgs false
namespace Go.TL

def putP (q : QueueT) (p : PacketT) : QueueT × Bool := if q.Line.length = 40 then (q, false) else (⟨q.Window, q.Sent, q.Base, q.Got, q.Line ++ [p]⟩, true)
def without (l : List PacketT) (k : Nat) : List PacketT := l.take k ++ l.drop (k + 1)
def tookP (q : QueueT) (p : PacketT) (l : List PacketT) : QueueT :=
  if p.Ack = true then ⟨q.Window, q.Sent, max q.Base p.No, q.Got, l⟩
  else if p.No = q.Got.length then (putP ⟨q.Window, q.Sent, q.Base, q.Got ++ [p.Text], l⟩ ⟨true, ((q.Got.length + 1 : Nat) : Int), ByteArray.empty⟩).1
  else (putP ⟨q.Window, q.Sent, q.Base, q.Got, l⟩ ⟨true, ((q.Got.length : Nat) : Int), ByteArray.empty⟩).1
def stepP (q : QueueT) (s : LineStepT) : QueueT × Bool :=
  if s.Kind = 1 then (if q.Sent.length = 40 ∨ 12 < s.Text.size then (q, false) else (⟨q.Window, q.Sent ++ [s.Text], q.Base, q.Got, q.Line⟩, true))
  else if s.Kind = 2 then (if q.Base ≤ s.K ∧ s.K < q.Base + q.Window ∧ s.K < q.Sent.length then putP q ⟨false, s.K, nth q.Sent s.K.toNat⟩ else (q, false))
  else if 0 ≤ s.K ∧ s.K < q.Line.length then
    (if s.Kind = 5 then putP q (nth q.Line s.K.toNat)
    else if s.Kind = 3 then (tookP q (nth q.Line s.K.toNat) (without q.Line s.K.toNat), true)
    else if s.Kind = 4 then (⟨q.Window, q.Sent, q.Base, q.Got, without q.Line s.K.toNat⟩, true)
    else (q, false))
  else (q, false)

/-- Small enough to be reckoned with. -/
def smallQ (q : QueueT) : Prop := (0 ≤ q.Window ∧ q.Window ≤ 1000) ∧ (0 ≤ q.Base ∧ q.Base ≤ 1000) ∧ q.Sent.length ≤ 1000 ∧ q.Got.length ≤ 1000 ∧ q.Line.length ≤ 1000

theorem spec_l14Put_eq (q : QueueT) (p : PacketT) (h : q.Line.length ≤ 1000) : spec_l14Put_www q p = some (putP q p) := by
  unfold spec_l14Put_www putP
  by_cases hc : q.Line.length = 40
  · rw [if_pos (by simp; omega), if_pos hc]
  · rw [if_neg (by simp; omega), if_neg hc, guard_pos (by omega)]
theorem impl_put_eq (q : QueueT) (p : PacketT) (h : q.Line.length ≤ 1000) : impl_Queue_put_o q p = some ((putP q p).2, (putP q p).1) := by
  unfold impl_Queue_put_o putP
  by_cases hc : q.Line.length = 40
  · rw [if_pos (by simp; omega), if_pos hc]
  · rw [if_neg (by simp; omega), if_neg hc, guard_pos (by omega)]
theorem put_keeps (q : QueueT) (p : PacketT) : (putP q p).1.Sent = q.Sent ∧ (putP q p).1.Got = q.Got := by
  unfold putP; split <;> exact ⟨rfl, rfl⟩
theorem queue_eta (q : QueueT) (s g : List ByteArray) (hs : q.Sent = s) (hg : q.Got = g) : (⟨q.Window, s, q.Base, g, q.Line⟩ : QueueT) = q := by subst hs; subst hg; rfl

theorem spec_without_eq (l : List PacketT) (k : Int) (h : 0 ≤ k ∧ k < l.length) (hl : l.length ≤ 1000) : spec_l14Without l k = some (without l k.toNat) := by
  unfold spec_l14Without without
  rw [wI_id (by omega), guard_pos (by omega), guard_pos (by rw [List.length_take]; omega), guard_pos (by omega), guard_pos (by rw [List.length_take, List.length_drop]; omega)]
  rw [show (k + 1).toNat = k.toNat + 1 by omega]
  rfl
theorem impl_delete_eq (l : List PacketT) (k : Int) (h : 0 ≤ k ∧ k < l.length) (hl : l.length ≤ 1000) : slices_Delete_impl_Packet_w l k (wI (k + 1)) = some (without l k.toNat) := by
  unfold slices_Delete_impl_Packet_w without
  rw [wI_id (by omega), guard_pos (by omega), show (k + 1).toNat = k.toNat + 1 by omega]
theorem without_len (l : List PacketT) (k : Nat) (h : k < l.length) : (without l k).length + 1 = l.length := by
  unfold without; rw [List.length_append, List.length_take, List.length_drop]; omega

theorem spec_step_eq (q : QueueT) (s : LineStepT) (h : smallQ q) : spec_l14Step_www q s = some (stepP q s) := by
  obtain ⟨hw, hb, hs, hg, hl⟩ := h
  unfold spec_l14Step_www stepP
  by_cases c1 : s.Kind = 1
  · rw [if_pos (by simpa using c1), if_pos c1]
    by_cases c2 : q.Sent.length = 40
    · rw [if_pos (by simp; omega), if_pos (.inl c2)]; rfl
    · rw [if_neg (by simp; omega)]
      by_cases c3 : 12 < s.Text.size
      · rw [if_pos (.inr c3)]; simp only [Option.bind_some]; rw [if_pos (by simp; omega)]
      · rw [if_neg (by omega)]; simp only [Option.bind_some]; rw [if_neg (by simp; omega), guard_pos (by omega)]
  rw [if_neg (by simpa using c1), if_neg c1]
  by_cases c2 : s.Kind = 2
  · rw [if_pos (by simpa using c2), if_pos c2, spec_l1In_eq, wI_id (n := q.Base + q.Window) (by omega), wI_id (by omega)]
    simp only [Option.bind_some]
    by_cases c3 : q.Base ≤ s.K ∧ s.K ≤ q.Base + q.Window - 1
    · rw [decide_eq_true c3, if_neg (by simp)]
      simp only [Option.bind_some]
      by_cases c4 : s.K ≥ ((q.Sent.length : Nat) : Int)
      · rw [if_pos (decide_eq_true c4), if_neg (by omega)]
      · rw [if_neg (by simpa using c4), if_pos (by omega), guard_pos (by omega), spec_l14Put_eq _ _ hl]
        simp only [Option.bind_some]
        rw [queue_eta _ _ _ (put_keeps _ _).1 (put_keeps _ _).2]
    · rw [decide_eq_false c3, if_pos (by simp)]
      simp only [Option.bind_some]
      rw [if_pos trivial, if_neg (by omega)]
  rw [if_neg (by simpa using c2), if_neg c2, spec_l1In_eq, wI_id (by omega)]
  simp only [Option.bind_some]
  by_cases c3 : 0 ≤ s.K ∧ s.K < q.Line.length
  rotate_left
  · rw [decide_eq_false (by omega), if_pos (by simp), if_neg c3]
  rw [decide_eq_true (by omega), if_neg (by simp), if_pos c3, guard_pos (by omega)]
  by_cases c4 : s.Kind = 5
  · rw [if_pos (by simpa using c4), if_pos c4, spec_l14Put_eq _ _ hl]
    simp only [Option.bind_some]
    rw [queue_eta _ _ _ (put_keeps _ _).1 (put_keeps _ _).2]
  rw [if_neg (by simpa using c4), if_neg c4]
  have hwl := without_len q.Line s.K.toNat (by omega)
  by_cases c5 : s.Kind = 3
  · rw [if_pos (by simpa using c5), if_pos c5]
    simp only [Option.bind_some, if_true]
    rw [spec_without_eq _ _ c3 hl]
    simp only [Option.bind_some]
    rw [if_neg (by simp; omega)]
    unfold tookP
    by_cases c6 : (nth q.Line s.K.toNat).Ack = true
    · rw [if_pos c6, if_pos c6]
      by_cases c7 : (nth q.Line s.K.toNat).No > q.Base
      · rw [if_pos (decide_eq_true c7), show max q.Base (nth q.Line s.K.toNat).No = (nth q.Line s.K.toNat).No by omega]
      · rw [if_neg (by simpa using c7), show max q.Base (nth q.Line s.K.toNat).No = q.Base by omega]
    · rw [if_neg c6, if_neg c6]
      by_cases c7 : (nth q.Line s.K.toNat).No = q.Got.length
      · rw [if_pos (by simpa using c7), if_pos c7, guard_pos (by omega), spec_l14Put_eq _ _ (by simp only; omega)]
        simp only [Option.bind_some]
        rw [queue_eta _ _ _ (put_keeps _ _).1 (put_keeps _ _).2]
      · rw [if_neg (by simpa using c7), if_neg c7, spec_l14Put_eq _ _ (by simp only; omega)]
        simp only [Option.bind_some]
        rw [queue_eta _ _ _ (put_keeps _ _).1 (put_keeps _ _).2]
  rw [if_neg (by simpa using c5), if_neg c5]
  simp only [Option.bind_some]
  by_cases c6 : s.Kind = 4
  · rw [if_pos (by simpa using c6), if_pos c6, spec_without_eq _ _ c3 hl]
    simp only [Option.bind_some]
    rw [if_pos (by simpa using c6)]
  · rw [if_neg (by simpa using c6), if_neg c6]

theorem impl_step_eq (q : QueueT) (s : LineStepT) (h : smallQ q) : impl_Queue_step_o q s = some ((stepP q s).2, (stepP q s).1) := by
  obtain ⟨hw, hb, hs, hg, hl⟩ := h
  unfold impl_Queue_step_o stepP
  by_cases c1 : s.Kind = 1
  · rw [if_pos (by simpa using c1), if_pos c1]
    by_cases c2 : q.Sent.length = 40
    · rw [if_pos (by simp; omega), if_pos (.inl c2)]; rfl
    · rw [if_neg (by simp; omega)]
      by_cases c3 : 12 < s.Text.size
      · rw [if_pos (.inr c3)]; simp only [Option.bind_some]; rw [if_pos (by simp; omega)]
      · rw [if_neg (by omega)]; simp only [Option.bind_some]; rw [if_neg (by simp; omega), guard_pos (by omega)]
  rw [if_neg (by simpa using c1), if_neg c1]
  by_cases c2 : s.Kind = 2
  · rw [if_pos (by simpa using c2), if_pos c2]
    unfold impl_Queue_send_o
    rw [impl_in_eq, wI_id (n := q.Base + q.Window) (by omega), wI_id (by omega)]
    simp only [Option.bind_some]
    by_cases c3 : q.Base ≤ s.K ∧ s.K ≤ min (q.Base + q.Window) ((q.Sent.length : Nat) : Int) - 1
    · rw [if_pos (decide_eq_true c3), if_pos (by omega), guard_pos (by omega), impl_put_eq _ _ hl]
      simp only [Option.bind_some]
      rw [queue_eta _ _ _ (put_keeps _ _).1 (put_keeps _ _).2]
    · rw [if_neg (by simpa using c3), if_neg (by omega)]
      rfl
  rw [if_neg (by simpa using c2), if_neg c2, impl_in_eq]
  simp only [Option.bind_some]
  by_cases ck : 3 ≤ s.Kind ∧ s.Kind ≤ 5
  rotate_left
  · rw [decide_eq_false ck, if_pos (by simp)]
    simp only [Option.bind_some]
    rw [if_pos trivial]
    by_cases c3 : 0 ≤ s.K ∧ s.K < q.Line.length
    · rw [if_pos c3, if_neg (by omega), if_neg (by omega), if_neg (by omega)]
    · rw [if_neg c3]
  rw [decide_eq_true ck, if_neg (by simp), impl_in_eq, wI_id (by omega)]
  simp only [Option.bind_some]
  by_cases c3 : 0 ≤ s.K ∧ s.K < q.Line.length
  rotate_left
  · rw [decide_eq_false (by omega), if_pos (by simp), if_neg c3]
  rw [decide_eq_true (by omega), if_neg (by simp), if_pos c3]
  have hwl := without_len q.Line s.K.toNat (by omega)
  by_cases c5 : s.Kind = 3
  · rw [if_pos (by simpa using c5), if_neg (by omega), if_pos c5]
    unfold impl_Queue_take_o
    rw [guard_pos (by omega), impl_delete_eq _ _ c3 hl]
    simp only [Option.bind_some]
    unfold tookP
    by_cases c6 : (nth q.Line s.K.toNat).Ack = true
    · rw [if_pos c6, if_pos c6]; rfl
    · rw [if_neg c6, if_neg c6]
      by_cases c7 : (nth q.Line s.K.toNat).No = q.Got.length
      · rw [if_pos (by simpa using c7), if_pos c7, guard_pos (by omega), impl_put_eq _ _ (by simp only; omega)]
        simp only [Option.bind_some]
        rw [queue_eta _ _ _ (put_keeps _ _).1 (put_keeps _ _).2]
      · rw [if_neg (by simpa using c7), if_neg c7, impl_put_eq _ _ (by simp only; omega)]
        simp only [Option.bind_some]
        rw [queue_eta _ _ _ (put_keeps _ _).1 (put_keeps _ _).2]
  rw [if_neg (by simpa using c5)]
  by_cases c6 : s.Kind = 4
  · rw [if_pos (by simpa using c6), if_neg (by omega), if_neg c5, if_pos c6, impl_delete_eq _ _ c3 hl]
    rfl
  · rw [if_neg (by simpa using c6), guard_pos (by omega), if_pos (by omega), impl_put_eq _ _ hl]
    simp only [Option.bind_some]
    rw [queue_eta _ _ _ (put_keeps _ _).1 (put_keeps _ _).2]
end Go.TL
set_option linter.unusedVariables false
set_option linter.unusedSimpArgs false
set_option maxRecDepth 4000
namespace Go.TL
def ok_LineStep (x : LineStepT) : Prop := ok_I x.Kind ∧ ok_I x.K ∧ ok_S x.Text
def siz_LineStep (x : LineStepT) : Nat := siz_I x.Kind + siz_I x.K + siz_S x.Text
def lk_LineStep (x : LineStepT) : Prop := lk_I x.Kind ∧ lk_I x.K ∧ lk_S x.Text
theorem lk_of_LineStep {x : LineStepT} (h : ok_LineStep x) : lk_LineStep x := ⟨lk_of_I h.1, lk_of_I h.2.1, lk_of_S h.2.2⟩
theorem laws_szLineStep_eq (a : LineStepT) (n : Int) (ha : ok_LineStep a) (h0 : 0 ≤ n) (h1 : n ≤ 4611686018427387904) : laws_szLineStep a n = some (szr (siz_LineStep a) n) := by
  unfold laws_szLineStep
  unfold ok_LineStep at ha
  unfold siz_LineStep
  have z_Kind : siz_I a.Kind = 0 := siz0_I _
  rw [z_Kind]
  have z_K : siz_I a.K = 0 := siz0_I _
  rw [z_K]
  have q0 : a.Text.size ≤ 9223372036854775807 := ha.2.2
  have z0 : siz_S a.Text = a.Text.size := rfl
  rw [z0, wI_id (by omega)]
  have e0 : szr a.Text.size (n) = if (a.Text.size : Int) ≤ n then n - (a.Text.size : Int) else -1 := rfl
  by_cases c0 : (a.Text.size : Int) ≤ n
  rotate_left
  · rw [if_pos (by simp; omega)]; unfold szr; rw [if_neg (by omega)]
  rw [if_neg (by simp; omega)]
  unfold szr; rw [if_pos (by omega)]
  congr 1; omega
theorem laws_toLineStep_eq (a : LineStepT) (ha : siz_LineStep a ≤ 4194304) : laws_toLineStep a = some a := by
  unfold siz_LineStep at ha
  unfold laws_toLineStep
  all_goals rfl
def ok_LLineStep (x : (List LineStepT)) : Prop := x.length ≤ 9223372036854775807 ∧ ∀ y ∈ x, ok_LineStep y
def siz_LLineStep (x : (List LineStepT)) : Nat := x.length + sumN (x.map siz_LineStep)
def lk_LLineStep (x : (List LineStepT)) : Prop := x.length ≤ 9223372036854775807 ∧ ∀ y ∈ x, lk_LineStep y
theorem lk_of_LLineStep {x : (List LineStepT)} (h : ok_LLineStep x) : lk_LLineStep x := ⟨h.1, fun y hy => lk_of_LineStep (h.2 y hy)⟩
theorem laws_szLineStepS_eq (a : (List LineStepT)) (n : Int) (ha : ok_LLineStep a) (h0 : 0 ≤ n) (h1 : n ≤ 4611686018427387904) : laws_szLineStepS a n = some (szr (siz_LLineStep a) n) := by
  obtain ⟨ha1, ha2⟩ := ha
  unfold laws_szLineStepS
  rw [wI_id (by omega)]
  by_cases hc : n - ((a.length : Nat) : Int) < 0
  · rw [if_pos (decide_eq_true hc)]
    unfold szr siz_LLineStep
    rw [if_neg (by omega)]
  · rw [if_neg (by simpa using hc)]
    have key := sz_loop (step := laws_szLineStepS_L1 a) (fun i s => (⟨s, i⟩ : laws_szLineStepS_G1)) a siz_LineStep n (fun s => (.inr ⟨s⟩ : Unit ⊕ laws_szLineStepS_P1_1)) (.inl ()) (fun i s hi hs => ?_) (fun s hs => ?_) (n - ((a.length : Nat) : Int)) ⟨by omega, by omega⟩
    · rw [key]
      unfold szr siz_LLineStep
      by_cases h : (sumN (a.map siz_LineStep) : Int) ≤ n - ((a.length : Nat) : Int)
      · rw [if_pos h, if_pos (by omega)]; simp only [Option.bind_some]; congr 1; omega
      · rw [if_neg h, if_neg (by omega)]; rfl
    · have hm := ha2 _ (nth_mem hi)
      unfold laws_szLineStepS_L1
      simp (disch := omega) only [decide_eq_true_eq, if_pos, guard_pos, Int.toNat_natCast, wI_id]
      rw [laws_szLineStep_eq _ _ hm (by omega) (by omega)]
      simp only [Option.bind_some]
      unfold szr
      by_cases h : (siz_LineStep (nth a i) : Int) ≤ s
      · rw [if_pos h, if_pos h, if_neg (by omega)]; rfl
      · rw [if_neg h, if_neg h, if_pos (by omega)]
    · unfold laws_szLineStepS_L1
      rw [if_neg (by simp)]
theorem laws_toLineStepS_eq (a : (List LineStepT)) (ha : siz_LLineStep a ≤ 4194304) : laws_toLineStepS a = some a := by
  unfold siz_LLineStep at ha
  unfold laws_toLineStepS
  rw [guard_pos (by omega)]
  have key := fill_loop (step := laws_toLineStepS_L1 a) (fun i l => (⟨i, l⟩ : laws_toLineStepS_G1)) a (fun x => x) (fun l => (⟨l⟩ : laws_toLineStepS_P1_0)) (fun i l hi hl => ?_) (fun l hl => ?_) (List.replicate a.length (⟨0, 0, ByteArray.empty⟩ : LineStepT)) (by simp)
  · rw [key]; simp
  · unfold laws_toLineStepS_L1
    have hm : siz_LineStep (nth a i) ≤ 4194304 := Nat.le_trans (sumN_mem siz_LineStep (nth_mem hi)) (by omega)
    simp (disch := omega) only [decide_eq_true_eq, if_pos, guard_pos, Int.toNat_natCast, wI_id]
    rw [laws_toLineStep_eq _ hm]
    simp (disch := omega) only [Option.bind_some, guard_pos]
    rfl
  · unfold laws_toLineStepS_L1
    rw [if_neg (by simp)]
def ok_LB (x : (List Bool)) : Prop := x.length ≤ 9223372036854775807 ∧ ∀ y ∈ x, ok_B y
def siz_LB (x : (List Bool)) : Nat := x.length + sumN (x.map siz_B)
def lk_LB (x : (List Bool)) : Prop := x.length ≤ 9223372036854775807 ∧ ∀ y ∈ x, lk_B y
theorem lk_of_LB {x : (List Bool)} (h : ok_LB x) : lk_LB x := ⟨h.1, fun y hy => lk_of_B (h.2 y hy)⟩
theorem laws_eqBoolS_eq (a b : (List Bool)) (ha : lk_LB a) : laws_eqBoolS a b = some (decide (a = b)) := by
  obtain ⟨ha1, ha2⟩ := ha
  unfold laws_eqBoolS
  by_cases hl : a.length = b.length
  · rw [if_neg (by simp [hl])]
    have key := eq_loop (step := laws_eqBoolS_L1 a b) (fun i => (⟨i⟩ : laws_eqBoolS_G1)) a b hl (fun i hi => ?_) ?_
    · rw [key]; by_cases h : a = b <;> simp [h]
    · have hm := ha2 _ (nth_mem hi)
      unfold laws_eqBoolS_L1
      simp (disch := omega) only [decide_eq_true_eq, if_pos, guard_pos, Int.toNat_natCast, wI_id]
      by_cases h : nth a i = nth b i <;> simp [h]
    · unfold laws_eqBoolS_L1
      rw [if_neg (by simp)]
  · rw [if_pos (by simp; omega)]
    simp [show a ≠ b from fun h => hl (by rw [h])]
theorem laws_eqLineStep_eq (a b : LineStepT) (ha : lk_LineStep a) : laws_eqLineStep a b = some (decide (a = b)) := by
  unfold lk_LineStep at ha
  unfold laws_eqLineStep
  obtain ⟨x0, x1, x2⟩ := a
  obtain ⟨y0, y1, y2⟩ := b
  simp only [sEq, Option.bind_some, LineStepT.mk.injEq]
  by_cases h0 : x0 = y0
  rotate_left
  · simp [h0]
  by_cases h1 : x1 = y1
  rotate_left
  · simp [h1]
  by_cases h2 : x2 = y2
  rotate_left
  · simp [h2]
  simp [h0, h1, h2]
theorem laws_eqLineStepS_eq (a b : (List LineStepT)) (ha : lk_LLineStep a) : laws_eqLineStepS a b = some (decide (a = b)) := by
  obtain ⟨ha1, ha2⟩ := ha
  unfold laws_eqLineStepS
  by_cases hl : a.length = b.length
  · rw [if_neg (by simp [hl])]
    have key := eq_loop (step := laws_eqLineStepS_L1 a b) (fun i => (⟨i⟩ : laws_eqLineStepS_G1)) a b hl (fun i hi => ?_) ?_
    · rw [key]; by_cases h : a = b <;> simp [h]
    · have hm := ha2 _ (nth_mem hi)
      unfold laws_eqLineStepS_L1
      simp (disch := omega) only [decide_eq_true_eq, if_pos, guard_pos, Int.toNat_natCast, wI_id]
      rw [laws_eqLineStep_eq _ _ hm]; simp only [Option.bind_some]
      by_cases h : nth a i = nth b i <;> simp [h]
    · unfold laws_eqLineStepS_L1
      rw [if_neg (by simp)]
  · rw [if_pos (by simp; omega)]
    simp [show a ≠ b from fun h => hl (by rw [h])]
end Go.TL
set_option linter.unusedVariables false
set_option linter.unusedSimpArgs false
namespace Go.TL
def zeroQ : QueueT := ⟨0, [], 0, [], []⟩
def stepQ (q : QueueT) (s : LineStepT) : QueueT × Bool := if goodQ q = true ∧ (stepP q s).2 = true then ((stepP q s).1, true) else (zeroQ, false)

theorem good_small {q : QueueT} (h : goodQ q = true) : smallQ q := by
  unfold goodQ at h
  simp only [Bool.and_eq_true, decide_eq_true_eq] at h
  obtain ⟨⟨⟨⟨⟨⟨⟨h1, h2⟩, h3⟩, h4⟩, h5⟩, h6⟩, h7⟩, h8⟩ := h
  refine ⟨?_, ?_, ?_, ?_, ?_⟩ <;> omega
theorem step_len (q : QueueT) (s : LineStepT) : (stepP q s).1.Sent.length ≤ q.Sent.length + 1 ∧ (stepP q s).1.Got.length ≤ q.Got.length + 1 ∧ (stepP q s).1.Line.length ≤ q.Line.length + 2 := by
  have hput : ∀ (q : QueueT) (p : PacketT), (putP q p).1.Sent.length = q.Sent.length ∧ (putP q p).1.Got.length = q.Got.length ∧ (putP q p).1.Line.length ≤ q.Line.length + 1 := fun q p => by
    unfold putP; split <;> simp
  have hwo : ∀ (l : List PacketT) (k : Nat), (without l k).length ≤ l.length := fun l k => by
    unfold without; rw [List.length_append, List.length_take, List.length_drop]; omega
  have htook : ∀ (q : QueueT) (p : PacketT) (l : List PacketT), (tookP q p l).Sent.length = q.Sent.length ∧ (tookP q p l).Got.length ≤ q.Got.length + 1 ∧ (tookP q p l).Line.length ≤ l.length + 1 := fun q p l => by
    unfold tookP
    split
    · simp
    · split
      · have := hput ⟨q.Window, q.Sent, q.Base, q.Got ++ [p.Text], l⟩ ⟨true, ((q.Got.length + 1 : Nat) : Int), ByteArray.empty⟩
        simp only [List.length_append, List.length_cons, List.length_nil] at this
        refine ⟨this.1, by omega, this.2.2⟩
      · have := hput ⟨q.Window, q.Sent, q.Base, q.Got, l⟩ ⟨true, ((q.Got.length : Nat) : Int), ByteArray.empty⟩
        refine ⟨this.1, by simp only at this; omega, this.2.2⟩
  unfold stepP
  split
  · split
    · simp
    · simp
  split
  · split
    · have := hput q ⟨false, s.K, nth q.Sent s.K.toNat⟩
      refine ⟨by omega, by omega, by omega⟩
    · simp
  split
  · split
    · have := hput q (nth q.Line s.K.toNat)
      refine ⟨by omega, by omega, by omega⟩
    split
    · have h1 := htook q (nth q.Line s.K.toNat) (without q.Line s.K.toNat)
      have h2 := hwo q.Line s.K.toNat
      refine ⟨by simp only; omega, by simp only; omega, by simp only; omega⟩
    split
    · have h2 := hwo q.Line s.K.toNat
      refine ⟨by simp only; omega, by simp only; omega, by simp only; omega⟩
    · simp
  · simp
theorem stepQ_len (q : QueueT) (s : LineStepT) : (stepQ q s).1.Sent.length ≤ 1001 ∧ (stepQ q s).1.Got.length ≤ 1001 ∧ (stepQ q s).1.Line.length ≤ 1002 := by
  unfold stepQ
  split
  · rename_i h
    obtain ⟨_, _, h1, h2, h3⟩ := good_small h.1
    have := step_len q s
    refine ⟨by simp only; omega, by simp only; omega, by simp only; omega⟩
  · simp [zeroQ]
theorem lkQ {q : QueueT} (h1 : q.Sent.length ≤ 1000000) (h2 : q.Got.length ≤ 1000000) (h3 : q.Line.length ≤ 1000000) : lk_Queue q := by
  have hS : ∀ (l : List ByteArray), ∀ y ∈ l, lk_S y := fun _ _ _ => trivial
  refine ⟨trivial, ⟨by omega, hS _⟩, trivial, ⟨by omega, hS _⟩, ⟨by omega, fun y _ => ⟨trivial, trivial, trivial⟩⟩⟩

theorem own_eq (q : QueueT) (h1 : q.Sent.length ≤ 1000000) (h2 : q.Got.length ≤ 1000000) (h3 : q.Line.length ≤ 1000000) : spec_l14Own q = some q := by
  unfold spec_l14Own
  rw [guard_pos (by omega), guard_pos (by omega), guard_pos (by omega)]
  rfl
theorem clone_eq (q : QueueT) (h1 : q.Sent.length ≤ 1000000) (h2 : q.Got.length ≤ 1000000) (h3 : q.Line.length ≤ 1000000) : impl_cloneQueue q = some q := by
  unfold impl_cloneQueue slices_Clone_string slices_Clone_impl_Packet
  rw [guard_pos (by omega), guard_pos (by omega), guard_pos (by omega)]
  rfl
theorem spec_StepQueue_eq (q : QueueT) (s : LineStepT) (hs : q.Sent.length ≤ 9223372036854775807) (hg : q.Got.length ≤ 9223372036854775807) (hl : q.Line.length ≤ 9223372036854775807) : spec_StepQueue q s = some (stepQ q s) := by
  unfold spec_StepQueue stepQ
  rw [spec_GoodQueue_eq _ hs hg hl]
  simp only [Option.bind_some]
  by_cases h : goodQ q = true
  rotate_left
  · rw [if_pos (by simpa using h), if_neg (by simp [h])]; rfl
  have hq := good_small h
  obtain ⟨_, _, h1, h2, h3⟩ := good_small h
  rw [if_neg (by simp [h]), own_eq _ (by omega) (by omega) (by omega)]
  simp only [Option.bind_some]
  rw [spec_step_eq _ _ hq]
  simp only [Option.bind_some]
  by_cases h4 : (stepP q s).2 = true
  · rw [if_neg (by simp [h4]), if_pos ⟨h, h4⟩]
  · rw [if_pos (by simp [h4]), if_neg (by simp [h4])]; rfl
theorem impl_StepQueue_eq (q : QueueT) (s : LineStepT) (hs : q.Sent.length ≤ 9223372036854775807) (hg : q.Got.length ≤ 9223372036854775807) (hl : q.Line.length ≤ 9223372036854775807) : impl_StepQueue q s = some (stepQ q s) := by
  unfold impl_StepQueue stepQ
  rw [impl_GoodQueue_eq _ hs hg hl]
  simp only [Option.bind_some]
  by_cases h : goodQ q = true
  rotate_left
  · rw [if_pos (by simpa using h), if_neg (by simp [h])]; rfl
  have hq := good_small h
  obtain ⟨_, _, h1, h2, h3⟩ := good_small h
  rw [if_neg (by simp [h]), clone_eq _ (by omega) (by omega) (by omega)]
  simp only [Option.bind_some]
  rw [impl_step_eq _ _ hq]
  simp only [Option.bind_some]
  by_cases h4 : (stepP q s).2 = true
  · rw [if_neg (by simp [h4]), if_pos ⟨h, h4⟩]
  · rw [if_pos (by simp [h4]), if_neg (by simp [h4])]; rfl

theorem szr_ok' {s : Nat} {n : Int} (h : (s : Int) ≤ n) : szr s n = n - s := by unfold szr; rw [if_pos h]
theorem step_holds (q : QueueT) (s : LineStepT) (hq : ok_Queue q) (hs : ok_LineStep s) : laws_FnExactStepQueue q s = some true := by
  unfold laws_FnExactStepQueue
  rw [laws_szQueue_eq _ _ hq (by omega) (by omega)]
  simp only [Option.bind_some]
  by_cases h : (siz_Queue q : Int) ≤ 1048576
  rotate_left
  · rw [if_pos (decide_eq_true (szr_no h))]
  rw [if_neg (by simpa using szr_ok h), szr_ok' h, laws_szLineStep_eq _ _ hs (by omega) (by omega)]
  simp only [Option.bind_some]
  by_cases h' : (siz_LineStep s : Int) ≤ 1048576 - (siz_Queue q : Int)
  rotate_left
  · rw [if_pos (decide_eq_true (szr_no h'))]
  rw [if_neg (by simpa using szr_ok h'), laws_toQueue_eq _ (by omega), laws_toLineStep_eq _ (by omega)]
  have hk := lk_of_Queue hq
  have h1 := hk.2.1.1
  have h2 := hk.2.2.2.1.1
  have h3 := hk.2.2.2.2.1
  have hz : q.Sent.length + q.Got.length + q.Line.length ≤ 1048576 := by
    unfold siz_Queue siz_LS siz_LPacket at h; omega
  obtain ⟨r1, r2, r3⟩ := stepQ_len q s
  simp only [Option.bind_some]
  rw [spec_StepQueue_eq _ _ h1 h2 h3]
  simp only [Option.bind_some]
  rw [impl_StepQueue_eq _ _ h1 h2 h3]
  simp only [Option.bind_some]
  have hkr : lk_Queue (stepQ q s).1 := lkQ (by omega) (by omega) (by omega)
  rw [laws_eqQueue_eq _ _ hkr, laws_eqQueue_eq _ _ hk]
  simp only [Option.bind_some, decide_true, Bool.not_true, beq_self_eq_true, Bool.false_eq_true, if_false]
  rw [mark_Queue_eq q 1 (by omega) (by omega) (by omega) (by omega) (by omega), mark_Queue_eq (stepQ q s).1 1 (by omega) (by omega) (by omega) (by omega) (by omega)]
  simp only [Option.bind_some]
  rw [guard_pos (marks_length ..), guard_pos (marks_length ..), guard_pos (marks_length ..), if_neg (by simp; omega)]
  simp only [Option.bind_some, Bool.false_eq_true, if_false]
  rw [guard_pos (marks_length ..), guard_pos (marks_length ..), guard_pos (marks_length ..), held_Queue_eq _ _ _ _ _ 1 (by omega) (by omega) (by omega) (by omega) (by omega)]
  simp only [Option.bind_some]
  rw [if_neg (by simp; omega), if_neg (by simp), if_neg (by simp; omega), if_neg (by simp)]
end Go.TL
set_option linter.unusedVariables false
set_option linter.unusedSimpArgs false
namespace Go.TL

/-! ### good queues stay good -/
structure GQ (q : QueueT) : Prop where
  win : 1 ≤ q.Window ∧ q.Window ≤ 10
  sent : q.Sent.length ≤ 40
  size : ∀ s ∈ q.Sent, s.size ≤ 12
  got : q.Got.length ≤ q.Sent.length
  same : q.Got = q.Sent.take q.Got.length
  base : 0 ≤ q.Base ∧ q.Base ≤ q.Got.length
  line : q.Line.length ≤ 40
  pkt : ∀ p ∈ q.Line, pktOk q p = true
theorem goodQ_iff (q : QueueT) : goodQ q = true ↔ GQ q := by
  unfold goodQ
  simp only [Bool.and_eq_true, decide_eq_true_eq, List.all_eq_true]
  exact ⟨fun ⟨⟨⟨⟨⟨⟨⟨h1, h2⟩, h3⟩, h4⟩, h5⟩, h6⟩, h7⟩, h8⟩ => ⟨h1, h2, h3, h4, h5, h6, h7, h8⟩, fun ⟨h1, h2, h3, h4, h5, h6, h7, h8⟩ => ⟨⟨⟨⟨⟨⟨⟨h1, h2⟩, h3⟩, h4⟩, h5⟩, h6⟩, h7⟩, h8⟩⟩
theorem pkt_ack {q : QueueT} {p : PacketT} (h : p.Ack = true) : pktOk q p = true ↔ (0 ≤ p.No ∧ p.No ≤ q.Got.length) ∧ p.Text = ByteArray.empty := by
  unfold pktOk; rw [if_pos h]; simp only [Bool.and_eq_true, decide_eq_true_eq]
theorem pkt_data {q : QueueT} {p : PacketT} (h : ¬ p.Ack = true) : pktOk q p = true ↔ ((0 ≤ p.No ∧ p.No < q.Sent.length) ∧ p.No < q.Base + q.Window) ∧ p.Text = nth q.Sent p.No.toNat := by
  unfold pktOk; rw [if_neg h]; simp only [Bool.and_eq_true, decide_eq_true_eq]

theorem nth_app_lt {α : Type} [Inhabited α] {l r : List α} {i : Nat} (h : i < l.length) : nth (l ++ r) i = nth l i := by
  rw [nth_eq h, nth_eq (by rw [List.length_append]; omega), List.getElem_append_left h]
theorem pkt_mono {q q' : QueueT} {p : PacketT} (h : pktOk q p = true) (hg : q.Got.length ≤ q'.Got.length) (hs : q.Sent.length ≤ q'.Sent.length) (hn : ∀ i, i < q.Sent.length → nth q'.Sent i = nth q.Sent i) (hb : q.Base + q.Window ≤ q'.Base + q'.Window) : pktOk q' p = true := by
  by_cases ha : p.Ack = true
  · rw [pkt_ack ha] at h ⊢; exact ⟨by omega, h.2⟩
  · rw [pkt_data ha] at h ⊢; exact ⟨by omega, by rw [hn _ (by omega)]; exact h.2⟩
theorem put_good {q : QueueT} {p : PacketT} (h : GQ q) (hp : pktOk q p = true) : GQ (putP q p).1 := by
  unfold putP
  split
  · exact h
  · have hl := h.line
    refine ⟨h.win, h.sent, h.size, h.got, h.same, h.base, by simp only [List.length_append, List.length_cons, List.length_nil]; omega, fun x hx => ?_⟩
    rcases List.mem_append.1 hx with hx | hx
    · exact h.pkt x hx
    · rw [List.mem_singleton.1 hx]; exact hp
theorem without_mem {l : List PacketT} {k : Nat} {p : PacketT} (h : p ∈ without l k) : p ∈ l := by
  unfold without at h
  rcases List.mem_append.1 h with h | h
  · exact List.mem_of_mem_take h
  · exact List.mem_of_mem_drop h
theorem lose_good {q : QueueT} (h : GQ q) (k : Nat) (hk : k < q.Line.length) : GQ ⟨q.Window, q.Sent, q.Base, q.Got, without q.Line k⟩ := by
  have hl := h.line
  have := without_len q.Line k hk
  exact ⟨h.win, h.sent, h.size, h.got, h.same, h.base, by simp only; omega, fun x hx => h.pkt x (without_mem hx)⟩
theorem took_good {q : QueueT} (h : GQ q) (k : Nat) (hk : k < q.Line.length) : GQ (tookP q (nth q.Line k) (without q.Line k)) := by
  have hp := h.pkt _ (nth_mem hk)
  have h1 := lose_good h k hk
  have hg := h.got
  have hs := h.sent
  have hb := h.base
  unfold tookP
  split
  · rename_i ha
    rw [pkt_ack ha] at hp
    refine ⟨h.win, h.sent, h.size, h.got, h.same, ⟨by simp only; omega, by simp only; omega⟩, h1.line, fun x hx => pkt_mono (h1.pkt x hx) (Nat.le_refl _) (Nat.le_refl _) (fun _ _ => rfl) ?_⟩
    simp only; omega
  · rename_i ha
    rw [pkt_data ha] at hp
    split
    · rename_i hn
      refine put_good ⟨h.win, h.sent, h.size, ?_, ?_, ⟨hb.1, ?_⟩, h1.line, fun x hx => pkt_mono (h1.pkt x hx) ?_ (Nat.le_refl _) (fun _ _ => rfl) (Int.le_refl _)⟩ ?_
      · simp only [List.length_append, List.length_cons, List.length_nil]; omega
      · simp only [List.length_append, List.length_cons, List.length_nil]
        have hlt : q.Got.length < q.Sent.length := by omega
        rw [List.take_succ_eq_append_getElem hlt, ← h.same, hp.2, hn, Int.toNat_natCast, nth_eq hlt]
      · simp only [List.length_append, List.length_cons, List.length_nil]; omega
      · simp only [List.length_append, List.length_cons, List.length_nil]; omega
      · rw [pkt_ack rfl]
        refine ⟨?_, rfl⟩
        simp only [List.length_append, List.length_cons, List.length_nil]; omega
    · refine put_good h1 ?_
      rw [pkt_ack rfl]
      exact ⟨by simp only; omega, rfl⟩
theorem step_good {q : QueueT} (h : GQ q) (s : LineStepT) : GQ (stepP q s).1 := by
  have hg := h.got
  have hs := h.sent
  unfold stepP
  split
  · split
    · exact h
    · rename_i hc
      refine ⟨h.win, ?_, ?_, ?_, ?_, h.base, h.line, fun x hx => pkt_mono (h.pkt x hx) (Nat.le_refl _) ?_ (fun i hi => nth_app_lt hi) (Int.le_refl _)⟩
      · simp only [List.length_append, List.length_cons, List.length_nil]; omega
      · intro x hx
        rcases List.mem_append.1 hx with hx | hx
        · exact h.size x hx
        · rw [List.mem_singleton.1 hx]; omega
      · simp only [List.length_append, List.length_cons, List.length_nil]; omega
      · simp only
        rw [List.take_append_of_le_length hg]; exact h.same
      · simp only [List.length_append, List.length_cons, List.length_nil]; omega
  split
  · split
    · rename_i hc
      have hb := h.base
      refine put_good h ?_
      rw [pkt_data (by simp)]
      exact ⟨⟨⟨by simp only; omega, by simp only; omega⟩, by simp only; omega⟩, rfl⟩
    · exact h
  split
  · rename_i hc
    split
    · exact put_good h (h.pkt _ (nth_mem (by omega)))
    split
    · exact took_good h _ (by omega)
    split
    · exact lose_good h _ (by omega)
    · exact h
  · exact h
theorem GQ.small {q : QueueT} (h : GQ q) : smallQ q := good_small ((goodQ_iff q).2 h)

/-! ### playing -/
def playP : List LineStepT → QueueT → List Bool → QueueT × List Bool
  | [], q, l => (q, l)
  | s :: r, q, l => playP r (stepP q s).1 (l ++ [(stepP q s).2])
theorem play_good : ∀ (l : List LineStepT) {q : QueueT} (d : List Bool), GQ q → GQ (playP l q d).1
  | [], q, d, h => h
  | s :: r, q, d, h => play_good r _ (step_good h s)
theorem play_len : ∀ (l : List LineStepT) (q : QueueT) (d : List Bool), (playP l q d).2.length = d.length + l.length
  | [], q, d => by simp [playP]
  | s :: r, q, d => by
    show (playP r (stepP q s).1 (d ++ [(stepP q s).2])).2.length = _
    rw [play_len r]; simp; omega
/-- Nothing changes where a step says no. -/
theorem step_no {q : QueueT} {s : LineStepT} (h : ¬ (stepP q s).2 = true) : (stepP q s).1 = q := by
  have hput : ∀ (q : QueueT) (p : PacketT), ¬ (putP q p).2 = true → (putP q p).1 = q := fun q p h => by
    unfold putP at h ⊢; split <;> simp_all
  unfold stepP at h ⊢
  split at h
  · rename_i c; rw [if_pos c]
    split at h
    · rename_i c; rw [if_pos c]
    · exact absurd rfl h
  rename_i c1; rw [if_neg c1]
  split at h
  · rename_i c; rw [if_pos c]
    split at h
    · rename_i c; rw [if_pos c]; exact hput _ _ h
    · rename_i c; rw [if_neg c]
  rename_i c2; rw [if_neg c2]
  split at h
  · rename_i c; rw [if_pos c]
    split at h
    · rename_i c; rw [if_pos c]; exact hput _ _ h
    rename_i c; rw [if_neg c]
    split at h
    · exact absurd rfl h
    rename_i c; rw [if_neg c]
    split at h
    · exact absurd rfl h
    rename_i c; rw [if_neg c]
  · rename_i c; rw [if_neg c]

theorem goodNew {w : Int} (h : 1 ≤ w ∧ w ≤ 10) : GQ ⟨w, [], 0, [], []⟩ :=
  ⟨h, by simp, by simp, by simp, by simp, by simp, by simp, by simp⟩
def playQ (w : Int) (l : List LineStepT) : QueueT × List Bool × Bool :=
  if (1 ≤ w ∧ w ≤ 10) ∧ l.length ≤ 200 then ((playP l ⟨w, [], 0, [], []⟩ []).1, (playP l ⟨w, [], 0, [], []⟩ []).2, true) else (zeroQ, [], false)

theorem forL_play (f : LineStepT → QueueT × List Bool → Option ((QueueT × List Bool) ⊕ Empty)) (l : List LineStepT) (hf : ∀ s x, s ∈ l → GQ x.1 → x.2.length ≤ 1000 → f s x = some (.inl ((stepP x.1 s).1, x.2 ++ [(stepP x.1 s).2]))) :
    ∀ (q : QueueT) (d : List Bool), GQ q → d.length + l.length ≤ 1000 → forL f l (q, d) = some (.inl (playP l q d)) := by
  induction l with
  | nil => intro q d _ _; rfl
  | cons s r ih =>
    intro q d hq hd
    simp only [List.length_cons] at hd
    simp only [forL]
    rw [hf s (q, d) (by simp) hq (by simp only; omega)]
    simp only [Option.bind_some]
    exact ih (fun s' x hs => hf s' x (by simp [hs])) _ _ (step_good hq s) (by simp only [List.length_append, List.length_cons, List.length_nil]; omega)
end Go.TL
set_option linter.unusedVariables false
set_option linter.unusedSimpArgs false
namespace Go.TL

theorem play_loop {γ τ : Type} {step : γ → Option (γ ⊕ τ)} (mk : Int → QueueT × List Bool → γ) (l : List LineStepT) (late : QueueT × List Bool → τ)
    (hs : ∀ (i : Nat) (x : QueueT × List Bool), i < l.length → GQ x.1 → x.2.length = i → step (mk i x) = some (.inl (mk (i + 1 : Nat) ((stepP x.1 (nth l i)).1, x.2 ++ [(stepP x.1 (nth l i)).2]))))
    (he : ∀ x : QueueT × List Bool, GQ x.1 → step (mk l.length x) = some (.inr (late x))) (q : QueueT) (hq : GQ q) : loopF step (mk 0 (q, [])) = some (late (playP l q [])) := by
  have key : ∀ (m i : Nat) (x : QueueT × List Bool), i + m = l.length → GQ x.1 → x.2.length = i → loopF step (mk i x) = some (late (playP (l.drop i) x.1 x.2)) := by
    intro m
    induction m with
    | zero =>
      intro i x h hx _
      have e : i = l.length := by omega
      subst e
      rw [loop_out (he x hx), List.drop_length]
      rfl
    | succ m ih =>
      intro i x h hx hd
      have hi : i < l.length := by omega
      rw [loop_on (hs i x hi hx hd), ih (i + 1) _ (by omega) (step_good hx _) (by simp only [List.length_append, List.length_cons, List.length_nil]; omega)]
      rw [List.drop_eq_getElem_cons hi, nth_eq hi]
      rfl
  have := key l.length 0 (q, []) (by omega) hq rfl
  simpa using this

theorem queue_eta' (q : QueueT) : (⟨q.Window, q.Sent, q.Base, q.Got, q.Line⟩ : QueueT) = q := rfl

theorem spec_PlayQueue_eq (w : Int) (l : List LineStepT) : spec_PlayQueue w l = some (playQ w l) := by
  unfold spec_PlayQueue spec_NewQueue playQ
  rw [spec_l1In_eq]
  simp only [Option.bind_some]
  by_cases h1 : 1 ≤ w ∧ w ≤ 10
  rotate_left
  · rw [decide_eq_false h1, if_pos (by simp), if_neg (fun h => h1 h.1)]
    simp only [Option.bind_some]
    rw [if_pos (by simp)]
    simp only [Option.bind_some, if_true]
    rfl
  rw [decide_eq_true h1, if_neg (by simp)]
  simp only [Option.bind_some]
  rw [if_neg (by simp)]
  simp only [Option.bind_some]
  by_cases h2 : l.length ≤ 200
  rotate_left
  · rw [if_pos (by simp; omega), if_neg (fun h => h2 h.2)]; rfl
  rw [if_neg (by simp; omega), if_pos ⟨h1, h2⟩]
  have key := play_loop (step := spec_PlayQueue_L1 l) (fun i x => (⟨i, x.1.Window, x.1.Base, x.2, x.1.Sent, x.1.Got, x.1.Line⟩ : spec_PlayQueue_G1)) l
    (fun x => (⟨x.1.Window, x.1.Base, x.2, x.1.Sent, x.1.Got, x.1.Line⟩ : spec_PlayQueue_P1_0)) (fun i x hi hx hd => ?_) (fun x hx => ?_) ⟨w, [], 0, [], []⟩ (goodNew h1)
  · rw [key]
    simp only [Option.bind_some]
    have hg := play_good l (d := []) (goodNew h1)
    obtain ⟨_, _, s1, s2, s3⟩ := hg.small
    rw [queue_eta', own_eq _ (by omega) (by omega) (by omega)]
    rfl
  · obtain ⟨a1, a2, s1, s2, s3⟩ := hx.small
    unfold spec_PlayQueue_L1
    simp only
    rw [if_pos (by simp; omega), guard_pos (by omega), queue_eta', own_eq _ (by omega) (by omega) (by omega)]
    simp only [Option.bind_some, Int.toNat_natCast]
    rw [spec_step_eq _ _ hx.small]
    simp only [Option.bind_some]
    have e4 : wI ((i : Int) + 1) = ((i + 1 : Nat) : Int) := by rw [wI_id (by omega)]; omega
    by_cases h : (stepP x.1 (nth l i)).2 = true
    · rw [if_pos h, guard_pos (by omega), e4]
    · rw [if_neg h, guard_pos (by omega), e4, step_no h]
  · unfold spec_PlayQueue_L1
    rw [if_neg (by simp)]

theorem impl_PlayQueue_eq (w : Int) (l : List LineStepT) : impl_PlayQueue w l = some (playQ w l) := by
  unfold impl_PlayQueue impl_NewQueue playQ
  rw [impl_in_eq]
  simp only [Option.bind_some]
  by_cases h1 : 1 ≤ w ∧ w ≤ 10
  rotate_left
  · rw [decide_eq_false h1, if_pos (by simp), if_neg (fun h => h1 h.1)]
    simp only [Option.bind_some]
    rw [if_pos (by simp)]
    simp only [Option.bind_some, if_true]
    rfl
  rw [decide_eq_true h1, if_neg (by simp)]
  simp only [Option.bind_some]
  rw [if_neg (by simp)]
  simp only [Option.bind_some]
  by_cases h2 : l.length ≤ 200
  rotate_left
  · rw [if_pos (by simp; omega), if_neg (fun h => h2 h.2)]; rfl
  rw [if_neg (by simp; omega), if_pos ⟨h1, h2⟩]
  have key := play_loop (step := impl_PlayQueue_L1 l) (fun i x => (⟨i, x.1.Window, x.1.Base, x.2, x.1.Sent, x.1.Got, x.1.Line⟩ : impl_PlayQueue_G1)) l
    (fun x => (⟨x.1.Window, x.1.Base, x.2, x.1.Sent, x.1.Got, x.1.Line⟩ : impl_PlayQueue_P1_0)) (fun i x hi hx hd => ?_) (fun x hx => ?_) ⟨w, [], 0, [], []⟩ (goodNew h1)
  · rw [key]
    rfl
  · unfold impl_PlayQueue_L1
    simp only
    rw [if_pos (by simp; omega), guard_pos (by omega), queue_eta']
    simp only [Int.toNat_natCast]
    rw [impl_step_eq _ _ hx.small]
    simp only [Option.bind_some]
    have e4 : wI ((i : Int) + 1) = ((i + 1 : Nat) : Int) := by rw [wI_id (by omega)]; omega
    rw [guard_pos (by omega), e4]
  · unfold impl_PlayQueue_L1
    rw [if_neg (by simp)]

theorem playQ_len (w : Int) (l : List LineStepT) : (playQ w l).1.Sent.length ≤ 1001 ∧ (playQ w l).1.Got.length ≤ 1001 ∧ (playQ w l).1.Line.length ≤ 1002 ∧ (playQ w l).2.1.length ≤ 200 := by
  unfold playQ
  split
  · rename_i h
    have hg := play_good l (d := []) (goodNew h.1)
    obtain ⟨_, _, s1, s2, s3⟩ := hg.small
    refine ⟨by simp only; omega, by simp only; omega, by simp only; omega, ?_⟩
    simp only
    rw [play_len]; simp; omega
  · simp [zeroQ]

/-! ### marks of bools and steps -/
def mBool (k : Int) : Bool := k.tmod 3 == 0
noncomputable def mLineStep (k : Int) : LineStepT := ⟨k, k + 1, mtext (k + 2)⟩
theorem mark_BoolS_eq (l : List Bool) (k : Int) (hk : 0 ≤ k) (hl : l.length ≤ 1099511627776) (hb : k + ((1 * l.length : Nat) : Int) ≤ 1152921504606846976) :
    laws_markBoolS_w l k = some (k + ((1 * l.length : Nat) : Int), marks mBool 1 k l.length) := by
  unfold laws_markBoolS_w
  have key := mark_loop (step := laws_markBoolS_w_L1) (fun i k l => (⟨k, i, l⟩ : laws_markBoolS_w_G1)) 1 mBool l.length 1152921504606846976 (fun k l => (⟨k, l⟩ : laws_markBoolS_w_P1_0)) (fun i k l' hi hl' h0 h1 => ?_) (fun k l' hl' => ?_) k l rfl hk hb
  · rw [key]; rfl
  · unfold laws_markBoolS_w_L1
    rw [if_pos (by simp; omega)]
    simp (disch := omega) only [Option.bind_some, guard_pos, Int.toNat_natCast, wI_id]
    rfl
  · unfold laws_markBoolS_w_L1
    rw [if_neg (by simp; omega)]
theorem mark_LineStepS_eq (l : List LineStepT) (k : Int) (hk : 0 ≤ k) (hl : l.length ≤ 1099511627776) (hb : k + ((3 * l.length : Nat) : Int) ≤ 1152921504606846976) :
    laws_markLineStepS_w l k = some (k + ((3 * l.length : Nat) : Int), marks mLineStep 3 k l.length) := by
  unfold laws_markLineStepS_w
  have key := mark_loop (step := laws_markLineStepS_w_L1) (fun i k l => (⟨k, i, l⟩ : laws_markLineStepS_w_G1)) 3 mLineStep l.length 1152921504606846976 (fun k l => (⟨k, l⟩ : laws_markLineStepS_w_P1_0)) (fun i k l' hi hl' h0 h1 => ?_) (fun k l' hl' => ?_) k l rfl hk hb
  · rw [key]; rfl
  · unfold laws_markLineStepS_w_L1
    have e1 : wI (k + 1) = k + 1 := wI_id (by omega)
    have e2 : wI (k + 1 + 1) = k + 2 := by rw [wI_id (by omega)]; omega
    have e3 : wI (k + 2 + 1) = k + 3 := by rw [wI_id (by omega)]; omega
    have e4 : wI ((i : Int) + 1) = ((i + 1 : Nat) : Int) := by rw [wI_id (by omega)]; omega
    simp only [e1, e2, e3, e4]
    rw [if_pos (by simp; omega), markText_eq (k + 2) (by omega) (by omega)]
    simp (disch := omega) only [Option.bind_some, guard_pos, Int.toNat_natCast, nth_set_same, List.set_set, List.length_set]
    rfl
  · unfold laws_markLineStepS_w_L1
    rw [if_neg (by simp; omega)]
theorem held_BoolS_eq (n : Nat) (k : Int) (hk : 0 ≤ k) (hl : n ≤ 1099511627776) (hb : k + ((1 * n : Nat) : Int) ≤ 1152921504606846976) :
    laws_heldBoolS (marks mBool 1 k n) k = some (k + ((1 * n : Nat) : Int)) := by
  unfold laws_heldBoolS
  have key := held_loop (step := laws_heldBoolS_L1 (marks mBool 1 k n)) (fun i k => (⟨k, i⟩ : laws_heldBoolS_G1)) 1 mBool n 1152921504606846976 (fun k => (⟨k⟩ : laws_heldBoolS_P1_1)) k (fun i k' hi hn h0 h1 => ?_) (fun k' => ?_) hk hb
  · rw [key]; rfl
  · unfold laws_heldBoolS_L1
    rw [if_pos (by simp [marks_length]; omega)]
    simp (disch := simp only [marks_length]; omega) only [Option.bind_some, guard_pos, Int.toNat_natCast]
    rw [if_neg (by simp [hn, mBool]), wI_id (by omega), wI_id (by omega)]
    rfl
  · unfold laws_heldBoolS_L1
    rw [if_neg (by simp [marks_length])]

theorem play_holds (w : Int) (l : List LineStepT) (hl : ok_LLineStep l) : laws_FnExactPlayQueue w l = some true := by
  unfold laws_FnExactPlayQueue
  rw [laws_szLineStepS_eq _ _ hl (by omega) (by omega)]
  simp only [Option.bind_some]
  by_cases h : (siz_LLineStep l : Int) ≤ 1048576
  rotate_left
  · rw [if_pos (decide_eq_true (szr_no h))]
  rw [if_neg (by simpa using szr_ok h), laws_toLineStepS_eq _ (by omega)]
  have hk := lk_of_LLineStep hl
  have hz : l.length ≤ 1048576 := by unfold siz_LLineStep at h; omega
  obtain ⟨r1, r2, r3, r4⟩ := playQ_len w l
  simp only [Option.bind_some]
  rw [spec_PlayQueue_eq]
  simp only [Option.bind_some]
  rw [impl_PlayQueue_eq]
  simp only [Option.bind_some]
  have hkr : lk_Queue (playQ w l).1 := lkQ (by omega) (by omega) (by omega)
  have hkb : lk_LB (playQ w l).2.1 := ⟨by omega, fun _ _ => trivial⟩
  rw [laws_eqQueue_eq _ _ hkr, laws_eqBoolS_eq _ _ hkb, laws_eqLineStepS_eq _ _ hk]
  simp only [Option.bind_some, decide_true, Bool.not_true, beq_self_eq_true, Bool.false_eq_true, if_false]
  rw [mark_LineStepS_eq l 1 (by omega) (by omega) (by omega), mark_Queue_eq (playQ w l).1 1 (by omega) (by omega) (by omega) (by omega) (by omega)]
  simp only [Option.bind_some]
  rw [guard_pos (marks_length ..), if_neg (by simp; omega)]
  simp only [Option.bind_some, Bool.false_eq_true, if_false]
  rw [guard_pos (marks_length ..), guard_pos (marks_length ..), guard_pos (marks_length ..), mark_BoolS_eq _ _ (by omega) (by omega) (by omega)]
  simp only [Option.bind_some]
  rw [guard_pos (marks_length ..), held_Queue_eq _ _ _ _ _ 1 (by omega) (by omega) (by omega) (by omega) (by omega)]
  simp only [Option.bind_some]
  rw [if_neg (by simp; omega), held_BoolS_eq _ _ (by omega) (by omega) (by omega)]
  simp only [Option.bind_some]
  rw [if_neg (by simp; omega), if_neg (by simp), if_neg (by simp; omega), if_neg (by simp; omega), if_neg (by simp)]
end Go.TL
set_option linter.unusedVariables false
set_option linter.unusedSimpArgs false
namespace Go.TL

theorem sameTexts_eq (a b : List ByteArray) (ha1 : a.length ≤ 9223372036854775807) : laws_sameTexts a b = some (decide (a = b)) := by
  unfold laws_sameTexts
  by_cases hl : a.length = b.length
  · rw [if_neg (by simp [hl])]
    have key := eq_loop (step := laws_sameTexts_L1 a b) (fun i => (⟨i⟩ : laws_sameTexts_G1)) a b hl (fun i hi => ?_) ?_
    · rw [key]; by_cases h : a = b <;> simp [h]
    · unfold laws_sameTexts_L1
      simp (disch := omega) only [decide_eq_true_eq, if_pos, guard_pos, Int.toNat_natCast, wI_id]
      rw [sEq]
      by_cases h : nth a i = nth b i <;> simp [h]
    · unfold laws_sameTexts_L1
      rw [if_neg (by simp)]
  · rw [if_pos (by simp; omega)]
    simp [show a ≠ b from fun h => hl (by rw [h])]
theorem samePackets_eq (a : List PacketT) (ha1 : a.length ≤ 9223372036854775807) : laws_samePackets a a = some true := by
  unfold laws_samePackets
  rw [if_neg (by simp)]
  have key := eq_loop (step := laws_samePackets_L1 a a) (fun i => (⟨i⟩ : laws_samePackets_G1)) a a rfl (fun i hi => ?_) ?_
  · rw [key]; simp
  · unfold laws_samePackets_L1
    simp (disch := omega) only [decide_eq_true_eq, if_pos, guard_pos, Int.toNat_natCast, wI_id]
    simp
  · unfold laws_samePackets_L1
    rw [if_neg (by simp)]

/-! ### what is sent -/
def endQ : List LineStepT → QueueT → QueueT
  | [], q => q
  | s :: r, q => endQ r (stepP q s).1
def didL : List LineStepT → QueueT → List Bool
  | [], _ => []
  | s :: r, q => (stepP q s).2 :: didL r (stepP q s).1
theorem play_eq : ∀ (l : List LineStepT) (q : QueueT) (d : List Bool), playP l q d = (endQ l q, d ++ didL l q)
  | [], q, d => by simp [playP, endQ, didL]
  | s :: r, q, d => by
    show playP r (stepP q s).1 (d ++ [(stepP q s).2]) = _
    rw [play_eq r]
    simp [endQ, didL]
theorem did_len : ∀ (l : List LineStepT) (q : QueueT), (didL l q).length = l.length
  | [], q => rfl
  | s :: r, q => by simp [didL, did_len r]
theorem end_good : ∀ (l : List LineStepT) {q : QueueT}, GQ q → GQ (endQ l q)
  | [], q, h => h
  | s :: r, q, h => end_good r (step_good h s)
theorem put_sent (q : QueueT) (p : PacketT) : (putP q p).1.Sent = q.Sent ∧ (putP q p).1.Got = q.Got ∧ (putP q p).1.Base = q.Base := by
  unfold putP; split <;> exact ⟨rfl, rfl, rfl⟩
theorem took_keeps (q : QueueT) (p : PacketT) (l : List PacketT) : (tookP q p l).Sent = q.Sent ∧ q.Got.length ≤ (tookP q p l).Got.length ∧ q.Base ≤ (tookP q p l).Base := by
  unfold tookP
  split
  · exact ⟨rfl, Nat.le_refl _, by simp only; omega⟩
  split
  · obtain ⟨h1, h2, h3⟩ := put_sent ⟨q.Window, q.Sent, q.Base, q.Got ++ [p.Text], l⟩ ⟨true, ((q.Got.length + 1 : Nat) : Int), ByteArray.empty⟩
    exact ⟨h1, by rw [h2]; simp, by rw [h3]; exact Int.le_refl _⟩
  · obtain ⟨h1, h2, h3⟩ := put_sent ⟨q.Window, q.Sent, q.Base, q.Got, l⟩ ⟨true, ((q.Got.length : Nat) : Int), ByteArray.empty⟩
    exact ⟨h1, by rw [h2]; exact Nat.le_refl _, by rw [h3]; exact Int.le_refl _⟩
theorem step_mono (q : QueueT) (s : LineStepT) : q.Got.length ≤ (stepP q s).1.Got.length ∧ q.Base ≤ (stepP q s).1.Base ∧ (¬ s.Kind = 1 → (stepP q s).1.Sent = q.Sent) ∧
    (s.Kind = 1 → (stepP q s).1.Sent = if (stepP q s).2 = true then q.Sent ++ [s.Text] else q.Sent) := by
  unfold stepP
  split
  · rename_i c1
    refine ⟨?_, ?_, fun h => absurd c1 h, fun _ => ?_⟩ <;> split <;> simp
  rename_i c1
  have z : s.Kind = 1 → False := fun h => c1 h
  split
  · split
    · obtain ⟨h1, h2, h3⟩ := put_sent q ⟨false, s.K, nth q.Sent s.K.toNat⟩
      exact ⟨by rw [h2]; exact Nat.le_refl _, by rw [h3]; exact Int.le_refl _, fun _ => h1, fun h => (z h).elim⟩
    · exact ⟨Nat.le_refl _, Int.le_refl _, fun _ => rfl, fun h => (z h).elim⟩
  split
  · split
    · obtain ⟨h1, h2, h3⟩ := put_sent q (nth q.Line s.K.toNat)
      exact ⟨by rw [h2]; exact Nat.le_refl _, by rw [h3]; exact Int.le_refl _, fun _ => h1, fun h => (z h).elim⟩
    split
    · obtain ⟨h1, h2, h3⟩ := took_keeps q (nth q.Line s.K.toNat) (without q.Line s.K.toNat)
      exact ⟨h2, h3, fun _ => h1, fun h => (z h).elim⟩
    split
    · exact ⟨Nat.le_refl _, Int.le_refl _, fun _ => rfl, fun h => (z h).elim⟩
    · exact ⟨Nat.le_refl _, Int.le_refl _, fun _ => rfl, fun h => (z h).elim⟩
  · exact ⟨Nat.le_refl _, Int.le_refl _, fun _ => rfl, fun h => (z h).elim⟩

theorem sent_loop (w : Int) (l : List LineStepT) (p : QueueT × List Bool × Bool) (hl : l.length ≤ 200) (q0 : QueueT) (h0 : GQ q0) (hs0 : q0.Sent = []) (hp : p.2.1 = didL l q0) :
    loopF (laws_FnQueue_L1 (w, l) p) ⟨0, []⟩ = some ⟨(endQ l q0).Sent⟩ := by
  have key : ∀ (m i : Nat) (q : QueueT), i + m = l.length → GQ q → (didL l q0).drop i = didL (l.drop i) q → loopF (laws_FnQueue_L1 (w, l) p) ⟨i, q.Sent⟩ = some ⟨(endQ (l.drop i) q).Sent⟩ := by
    intro m
    induction m with
    | zero =>
      intro i q h hq _
      have e : i = l.length := by omega
      subst e
      refine loop_out ?_
      unfold laws_FnQueue_L1
      rw [if_neg (by simp), List.drop_length]
      rfl
    | succ m ih =>
      intro i q h hq hd
      have hi : i < l.length := by omega
      have hdl : i < (didL l q0).length := by rw [did_len]; exact hi
      have hcons := List.drop_eq_getElem_cons hi
      have hcons2 := List.drop_eq_getElem_cons hdl
      rw [hcons, hcons2] at hd
      obtain ⟨d1, d2⟩ := List.cons.inj (show (didL l q0)[i] :: (didL l q0).drop (i + 1) = (stepP q l[i]).2 :: didL (l.drop (i + 1)) (stepP q l[i]).1 from hd)
      have hnd : nth p.2.1 i = (stepP q l[i]).2 := by rw [hp, nth_eq hdl, d1]
      have hnl : nth l i = l[i] := nth_eq hi
      have hpl : i < p.2.1.length := by rw [hp]; exact hdl
      obtain ⟨_, _, hsl, _, _⟩ := hq.small
      have hnext := ih (i + 1) _ (by omega) (step_good hq l[i]) d2
      obtain ⟨_, _, m3, m4⟩ := step_mono q l[i]
      have hend : endQ (l.drop i) q = endQ (l.drop (i + 1)) (stepP q l[i]).1 := by rw [hcons]; rfl
      rw [hend, ← hnext]
      refine loop_on ?_
      unfold laws_FnQueue_L1
      simp only
      have e4 : wI ((i : Int) + 1) = ((i + 1 : Nat) : Int) := by rw [wI_id (by omega)]; omega
      rw [if_pos (by simp; omega), guard_pos (by omega), guard_pos (by omega)]
      simp only [Int.toNat_natCast, hnd, hnl, e4]
      by_cases hc : (stepP q l[i]).2 = true
      · rw [if_pos hc]
        simp only [Option.bind_some]
        by_cases hk : l[i].Kind = 1
        · rw [if_pos (by simpa using hk), guard_pos (by omega), m4 hk, if_pos hc]
        · rw [if_neg (by simpa using hk), m3 hk]
      · rw [if_neg hc]
        simp only [Option.bind_some]
        rw [if_neg (by simp), step_no hc]
  have := key l.length 0 q0 (by omega) h0 rfl
  rw [hs0] at this
  simpa using this

/-! ### draws -/
theorem among_b {β : Type} {f : Int × l1CurT → Option β} {Q : β → Prop} {c : l1CurT} {K : Int} {l : List Int} (h : cur c K) (hK : K ≤ 4611686018427387000) (hn : 1 ≤ l.length ∧ l.length ≤ 1000)
    (hf : ∀ x c', cur c' (K + 2) → okO Q (f (x, c'))) : okO Q ((spec_l1Cur_among_ow c l).bind f) := by
  unfold spec_l1Cur_among_ow
  refine okO.bind_bind (pick_b h hK (by omega) fun x c' h1 h2 h3 h4 => ?_)
  have := h3 (by omega)
  exact okO.bind_guard ⟨h1, by simpa using this⟩ (okO.bind_some (hf _ _ h4))
theorem of_b {β : Type} {f : ByteArray × l1CurT → Option β} {Q : β → Prop} {c : l1CurT} {K : Int} {l : List ByteArray} (h : cur c K) (hK : K ≤ 4611686018427387000) (hn : 1 ≤ l.length ∧ l.length ≤ 1000)
    (hf : ∀ x c', cur c' (K + 2) → okO Q (f (x, c'))) : okO Q ((spec_l1Cur_of_ow c l).bind f) := by
  unfold spec_l1Cur_of_ow
  refine okO.bind_bind (pick_b h hK (by omega) fun x c' h1 h2 h3 h4 => ?_)
  have := h3 (by omega)
  exact okO.bind_guard ⟨h1, by simpa using this⟩ (okO.bind_some (hf _ _ h4))

theorem lineSteps_ok {c : l1CurT} {K : Int} (h : cur c K) (hK : K ≤ 4611686018427380000) : okO (fun r => r.1.length ≤ 201 ∧ cur r.2 (K + 4000)) (spec_l1Cur_lineSteps_o c) := by
  unfold spec_l1Cur_lineSteps_o
  refine pick_b h (by omega) (by omega) fun x1 c1 p1 _ q1 h1 => ?_
  have q1 := q1 (by omega)
  refine okO.bind (P := fun p => 0 ≤ p.t4 ∧ p.t4 ≤ 201 ∧ cur ⟨p.b0_0, p.b0_1, p.b0_2⟩ (K + 10)) ?_ fun p ⟨p0, p2, hc⟩ => ?_
  · refine one_b h1 (by omega) (by omega) fun b c2 h2 => okO.ite (fun _ => ?_) (fun _ => okO.some ⟨p1, by simp only; omega, h2.up (by omega)⟩)
    refine pick_b h2 (by omega) (by omega) fun x3 c3 p3 _ q3 h3 => okO.some ?_
    have q3 := q3 (by omega)
    have hw : wI (180 + x3) = 180 + x3 := wI_id (by omega)
    exact ⟨by simp only [hw]; omega, by simp only [hw]; omega, h3.up (by omega)⟩
  refine okO.bind (P := fun y => y.c1.length ≤ 201 ∧ cur ⟨y.b0_0, y.b0_1, y.b0_2⟩ (K + 4000)) ?_ fun y hy => okO.some hy
  refine okO.loop (fun g => 0 ≤ g.t4 ∧ g.t4 ≤ 201 ∧ (g.c1.length : Int) + g.t4 ≤ 201 ∧ 0 ≤ g.t5 ∧ g.t5 + g.t4 ≤ 201 ∧ cur ⟨g.b0_0, g.b0_1, g.b0_2⟩ (K + 10 + 15 * (201 - g.t4))) (fun g => g.t4.toNat)
    ⟨p0, p2, by simpa using p2, by simp, by simpa using p2, hc.up (by simp only; omega)⟩ fun g ⟨g1, g2, g3, g4, g5, g6⟩ => ?_
  unfold spec_l1Cur_lineSteps_o_L1
  refine okO.ite (fun hc => ?_) (fun hc => okO.some ⟨by simp only; omega, g6.up (by omega)⟩)
  have hc' : g.t4 > 0 := by simpa using hc
  refine among_b g6 (by omega) (by decide) fun k c2 h2 => ?_
  refine pick_b h2 (by omega) (by omega) fun x3 c3 p3 _ q3 h3 => ?_
  refine okO.bind (P := fun p => 0 ≤ p.t5 ∧ p.t5 ≤ g.t5 + 1 ∧ cur ⟨p.b0_0, p.b0_1, p.b0_2⟩ (K + 10 + 15 * (201 - g.t4) + 6)) ?_ fun p ⟨m1, m2, m3⟩ => ?_
  · refine okO.ite (fun _ => ?_) (fun _ => okO.some ⟨g4, by simp only; omega, h3.up (by omega)⟩)
    refine of_b h3 (by omega) (by simp) fun t c4 h4 => okO.some ?_
    have hw : wI (g.t5 + 1) = g.t5 + 1 := wI_id (by omega)
    exact ⟨by simp only [hw]; omega, by simp only [hw]; omega, h4.up (by omega)⟩
  refine okO.bind (P := fun p' => cur ⟨p'.b0_0, p'.b0_1, p'.b0_2⟩ (K + 10 + 15 * (201 - g.t4) + 8)) ?_ fun p' n1 => ?_
  · refine okO.ite (fun _ => ?_) (fun _ => okO.some (m3.up (by omega)))
    have hw : wI (p.t5 + 2) = p.t5 + 2 := wI_id (by omega)
    rw [hw]
    exact pick_b m3 (by omega) (by omega) fun x5 c5 _ _ _ h5 => okO.some (h5.up (by omega))
  have hw : wI (g.t4 - 1) = g.t4 - 1 := wI_id (by omega)
  have core : ∀ (s : LineStepT) (c' : l1CurT), cur c' (K + 10 + 15 * (201 - g.t4) + 12) →
      (0 ≤ wI (g.t4 - 1) ∧ wI (g.t4 - 1) ≤ 201 ∧ ((g.c1 ++ [s]).length : Int) + wI (g.t4 - 1) ≤ 201 ∧ 0 ≤ p.t5 ∧ p.t5 + wI (g.t4 - 1) ≤ 201 ∧ cur ⟨c'.code, c'.at_, c'.seed⟩ (K + 10 + 15 * (201 - wI (g.t4 - 1)))) ∧ (wI (g.t4 - 1)).toNat < g.t4.toNat := fun s c' h' => by
    simp only [hw, List.length_append, List.length_cons, List.length_nil]
    exact ⟨⟨by omega, by omega, by omega, m1, by omega, h'.up (by omega)⟩, by omega⟩
  refine one_b n1 (by omega) (by omega) fun b c6 h6 => okO.ite (fun _ => ?_) (fun _ => okO.guard (by omega) (okO.some (core _ c6 (h6.up (by omega)))))
  exact pick_b h6 (by omega) (by omega) fun x7 c7 _ _ _ h7 => okO.guard (by omega) (okO.some (core _ c7 (h7.up (by omega))))

theorem drawPlayQ_ok {code : List Int} (h : ∀ y ∈ code, 0 ≤ y ∧ y ≤ 255) : ∃ w l, spec_DrawPlayQueue code = some (w, l) := by
  have key : okO (fun _ => True) (spec_DrawPlayQueue code) := by
    unfold spec_DrawPlayQueue
    refine pick_b (cur0 h) (by omega) (by omega) fun x c _ _ _ h1 => ?_
    exact okO.bind (lineSteps_ok h1 (by omega)) fun r _ => okO.some trivial
  obtain ⟨⟨w, l⟩, e, _⟩ := key
  exact ⟨w, l, e⟩

def smallLens (q : QueueT) : Prop := q.Sent.length ≤ 2000 ∧ q.Got.length ≤ 2000 ∧ q.Line.length ≤ 2000
theorem queue_ok {c : l1CurT} {K : Int} (h : cur c K) (hK : K ≤ 4611686018427370000) : okO (fun r => smallLens r.1 ∧ cur r.2 (K + 5000)) (spec_l1Cur_queue_o c) := by
  unfold spec_l1Cur_queue_o
  refine okO.bind (lineSteps_ok h (by omega)) fun r ⟨hr, hc⟩ => ?_
  have sw : ∀ (q : QueueT × List Bool × Bool) (c1 : l1CurT), q.1.Sent.length ≤ 1001 → q.1.Got.length ≤ 1001 → q.1.Line.length ≤ 1002 → cur c1 (K + 4002) → okO (fun r => smallLens r.1 ∧ cur r.2 (K + 5000))
      ((spec_l1Cur_pick_o c1 40).bind fun c378 =>
    (if (c378.1 == 0) = true then
      ((spec_l1Cur_pick_o c378.2 3).bind fun c379 =>
      some ((⟨q.1.Window, q.1.Sent, (wI (q.1.Base + (wI (c379.1 - 1)))), q.1.Got, q.1.Line⟩ : QueueT), c379.2))
    else
      (if (c378.1 == 1) = true then
        (guardO ((q.1.Got.length + 1) * 16 ≤ 140737488355328) <|
        some ((⟨q.1.Window, q.1.Sent, q.1.Base, (q.1.Got ++ ([(⟨#[122]⟩ : ByteArray)])), q.1.Line⟩ : QueueT), c378.2))
      else
        (if (c378.1 == 2) = true then
          ((spec_l1Cur_pick_o c378.2 9).bind fun c380 =>
          ((spec_l1Cur_one_o c380.2 2).bind fun c381 =>
          (guardO ((q.1.Line.length + 1) * 32 ≤ 140737488355328) <|
          some ((⟨q.1.Window, q.1.Sent, q.1.Base, q.1.Got, (q.1.Line ++ ([(⟨c381.1, c380.1, ByteArray.empty⟩ : PacketT)]))⟩ : QueueT), c381.2))))
        else
          some (q.1, c378.2))))) := fun q c1 a1 a2 a3 h1 => by
    refine pick_b h1 (by omega) (by omega) fun x c2 _ _ _ h2 => okO.ite (fun _ => ?_) (fun _ => okO.ite (fun _ => ?_) (fun _ => okO.ite (fun _ => ?_) (fun _ => ?_)))
    · exact pick_b h2 (by omega) (by omega) fun y c3 _ _ _ h3 => okO.some ⟨⟨by simp only; omega, by simp only; omega, by simp only; omega⟩, h3.up (by omega)⟩
    · exact okO.guard (by omega) (okO.some ⟨⟨by simp only; omega, by simp only [List.length_append, List.length_cons, List.length_nil]; omega, by simp only; omega⟩, h2.up (by omega)⟩)
    · refine pick_b h2 (by omega) (by omega) fun y c3 _ _ _ h3 => one_b h3 (by omega) (by omega) fun z c4 h4 => ?_
      exact okO.guard (by omega) (okO.some ⟨⟨by simp only; omega, by simp only; omega, by simp only [List.length_append, List.length_cons, List.length_nil]; omega⟩, h4.up (by omega)⟩)
    · exact okO.some ⟨⟨by simp only; omega, by simp only; omega, by simp only; omega⟩, h2.up (by omega)⟩
  refine okO.ite (fun hl => ?_) (fun _ => ?_)
  · have hl' : ((r.1.length : Nat) : Int) > 200 := by simpa using hl
    refine okO.guard (by omega) ?_
    refine pick_b hc (by omega) (by omega) fun x c1 _ _ _ h1 => ?_
    rw [spec_PlayQueue_eq]
    obtain ⟨r1, r2, r3, _⟩ := playQ_len (wI (1 + x)) (r.1.take 60)
    exact okO.bind_some (sw _ c1 r1 r2 r3 (h1.up (by omega)))
  · refine pick_b hc (by omega) (by omega) fun x c1 _ _ _ h1 => ?_
    rw [spec_PlayQueue_eq]
    obtain ⟨r1, r2, r3, _⟩ := playQ_len (wI (1 + x)) r.1
    exact okO.bind_some (sw _ c1 r1 r2 r3 (h1.up (by omega)))
theorem drawStepQ_ok {code : List Int} (h : ∀ y ∈ code, 0 ≤ y ∧ y ≤ 255) : ∃ q s, spec_DrawStepQueue code = some (q, s) ∧ smallLens q := by
  have key : okO (fun r => smallLens r.1) (spec_DrawStepQueue code) := by
    unfold spec_DrawStepQueue
    refine okO.bind (queue_ok (cur0 h) (by omega)) fun r ⟨hr, hc⟩ => ?_
    refine pick_b hc (by omega) (by omega) fun x c1 _ _ _ h1 => ?_
    have hw : wI (((r.1.Line.length : Nat) : Int) + 1) = ((r.1.Line.length : Nat) : Int) + 1 := wI_id (by have := hr.2.2; omega)
    rw [hw]
    refine pick_b h1 (by omega) (by have := hr.2.2; omega) fun x c2 _ _ _ h2 => okO.ite (fun _ => ?_) (fun _ => okO.some hr)
    exact pick_b h2 (by omega) (by omega) fun y c3 _ _ _ h3 => okO.some hr
  obtain ⟨⟨q, s⟩, e, hq⟩ := key
  exact ⟨q, s, e, hq⟩

theorem queue_holds (a b : List Int) (ha : ∀ y ∈ a, 0 ≤ y ∧ y ≤ 255) (hb : ∀ y ∈ b, 0 ≤ y ∧ y ≤ 255) : laws_FnQueue a b = some true := by
  unfold laws_FnQueue
  by_cases hl : wI (((a.length : Nat) : Int) + ((b.length : Nat) : Int)) > 1048576
  · rw [if_pos (decide_eq_true hl)]
  rw [if_neg (by simpa using hl)]
  obtain ⟨w, l, e1⟩ := drawPlayQ_ok ha
  obtain ⟨q, s, e2, q1, q2, q3⟩ := drawStepQ_ok hb
  obtain ⟨r1, r2, r3, r4⟩ := playQ_len w l
  rw [e1]; simp only [Option.bind_some]
  rw [impl_PlayQueue_eq, spec_PlayQueue_eq]; simp only [Option.bind_some]
  rw [sameBools_eq _ _ (by omega), sameTexts_eq _ _ (by omega), samePackets_eq _ (by omega)]
  simp only [Option.bind_some, decide_true, Bool.not_true, beq_self_eq_true, Bool.false_eq_true, if_false]
  rw [if_neg (by simp)]
  have hmid : ∀ (k : Unit ⊕ Bool → Option Bool), ((if (playQ w l).2.2 = true then
          ((loopF (laws_FnQueue_L1 (w, l) (playQ w l)) ⟨0, []⟩).bind fun y354 =>
          ((impl_WaitingIn (playQ w l).1).bind fun c356 =>
          ((((laws_sameTexts (playQ w l).1.Sent y354.c1).bind fun c357 =>
            (if (!c357) = true then
              some (⟨true⟩ : laws_FnQueue_J4017)
            else
              (if (decide ((((playQ w l).1.Got.length : Nat) : Int) > ((y354.c1.length : Nat) : Int))) = true then
                some (⟨true⟩ : laws_FnQueue_J4017)
              else
                (guardO (0 ≤ 0 ∧ 0 ≤ (((playQ w l).1.Got.length : Nat) : Int) ∧ (((playQ w l).1.Got.length : Nat) : Int) ≤ ((y354.c1.length : Nat) : Int)) <|
                ((laws_sameTexts (playQ w l).1.Got (y354.c1.take (playQ w l).1.Got.length)).bind fun c358 =>
                (if (!c358) = true then
                  some (⟨true⟩ : laws_FnQueue_J4017)
                else
                  (if (decide ((playQ w l).1.Base > (((playQ w l).1.Got.length : Nat) : Int))) = true then
                    some (⟨true⟩ : laws_FnQueue_J4017)
                  else
                    (if (!c356.2) = true then
                      some (⟨true⟩ : laws_FnQueue_J4017)
                    else
                      (if (c356.1 != (wI (((y354.c1.length : Nat) : Int) - (((playQ w l).1.Got.length : Nat) : Int)))) = true then
                        some (⟨true⟩ : laws_FnQueue_J4017)
                      else
                        ((impl_GoodQueue (playQ w l).1).bind fun c359 =>
                        some (⟨(!c359)⟩ : laws_FnQueue_J4017))))))))))) : Option laws_FnQueue_J4017).bind fun p360 =>
          (if p360.t159 = true then
            some (.inr false)
          else
            some (.inl (() : Unit))))))
        else
          some (.inl (() : Unit))) : Option (Unit ⊕ Bool)).bind k = k (.inl ()) := fun k => by
    by_cases hok : (1 ≤ w ∧ w ≤ 10) ∧ l.length ≤ 200
    rotate_left
    · have : playQ w l = (zeroQ, [], false) := by unfold playQ; rw [if_neg hok]
      rw [this]; rfl
    have hpq : playQ w l = (endQ l ⟨w, [], 0, [], []⟩, didL l ⟨w, [], 0, [], []⟩, true) := by
      unfold playQ; rw [if_pos hok, play_eq]; rfl
    have hg := end_good l (goodNew hok.1)
    rw [if_pos (by rw [hpq]), sent_loop w l _ hok.2 _ (goodNew hok.1) rfl (by rw [hpq])]
    have hw : impl_WaitingIn (playQ w l).1 = some (wI ((((playQ w l).1.Sent.length : Nat) : Int) - (((playQ w l).1.Got.length : Nat) : Int)), true) := by
      unfold impl_WaitingIn
      rw [impl_GoodQueue_eq _ (by omega) (by omega) (by omega)]
      simp only [Option.bind_some]
      rw [if_neg (by rw [hpq]; simp [(goodQ_iff _).2 hg])]
    rw [hw]
    simp only [Option.bind_some]
    rw [impl_GoodQueue_eq _ (by omega) (by omega) (by omega), sameTexts_eq _ _ (by omega), sameTexts_eq _ _ (by omega)]
    rw [hpq]
    simp only [Option.bind_some, decide_true, Bool.not_true, Bool.false_eq_true, if_false]
    have h1 := hg.got
    have h2 := hg.base
    have h3 := hg.same
    rw [if_neg (by simp; omega), guard_pos (by omega)]
    rw [decide_eq_true h3, if_neg (by simp), if_neg (by simp; omega), if_neg (by simp), (goodQ_iff _).2 hg]
    rfl
  refine (hmid _).trans ?_
  simp only
  rw [e2]; simp only [Option.bind_some]
  obtain ⟨s1, s2, s3⟩ := stepQ_len q s
  rw [impl_StepQueue_eq _ _ (by omega) (by omega) (by omega), spec_StepQueue_eq _ _ (by omega) (by omega) (by omega)]
  simp only [Option.bind_some]
  rw [sameTexts_eq _ _ (by omega), samePackets_eq _ (by omega), impl_GoodQueue_eq _ (by omega) (by omega) (by omega)]
  simp only [Option.bind_some, decide_true, Bool.not_true, beq_self_eq_true, Bool.false_eq_true, if_false]
  unfold stepQ
  by_cases hc : goodQ q = true ∧ (stepP q s).2 = true
  · rw [if_pos hc]
    have hg := step_good ((goodQ_iff q).1 hc.1) s
    obtain ⟨m1, m2, _, _⟩ := step_mono q s
    rw [if_neg (by simp), if_pos ((goodQ_iff _).2 hg), if_pos (by simp; omega), decide_eq_true (by simp only; omega)]
  · rw [if_neg hc]
    rfl
end Go.TL

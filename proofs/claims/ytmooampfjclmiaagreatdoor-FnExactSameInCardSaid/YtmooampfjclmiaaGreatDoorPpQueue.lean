import Derived.Test.YtmooampfjclmiaaGreatDoorPpR1
set_option linter.unusedSimpArgs false
set_option linter.unusedVariables false
namespace Go.TL

theorem spec_l1In_eq (n a b : Int) : spec_l1In n a b = some (decide (a ≤ n ∧ n ≤ b)) := by
  unfold spec_l1In
  by_cases h : a ≤ n <;> simp [h]
theorem impl_in_eq (n a b : Int) : impl_in n a b = some (decide (a ≤ n ∧ n ≤ b)) := spec_l1In_eq n a b

def pktOk (q : QueueT) (p : PacketT) : Bool :=
  if p.Ack = true then decide (0 ≤ p.No ∧ p.No ≤ q.Got.length) && decide (p.Text = ByteArray.empty)
  else decide (0 ≤ p.No ∧ p.No < q.Sent.length) && decide (p.No < q.Base + q.Window) && decide (p.Text = nth q.Sent p.No.toNat)
def goodQ (q : QueueT) : Bool :=
  decide (1 ≤ q.Window ∧ q.Window ≤ 10) && decide (q.Sent.length ≤ 40) && q.Sent.all (fun s => decide (s.size ≤ 12)) && decide (q.Got.length ≤ q.Sent.length) &&
    decide (q.Got = q.Sent.take q.Got.length) && decide (0 ≤ q.Base ∧ q.Base ≤ q.Got.length) && decide (q.Line.length ≤ 40) && q.Line.all (pktOk q)

theorem sEq_empty (a : ByteArray) : (a.toList == ByteArray.empty.toList) = decide (a = ByteArray.empty) := sEq _ _

theorem impl_Queue_packetOk_r_eq (q : QueueT) (p : PacketT) (h1 : 1 ≤ q.Window ∧ q.Window ≤ 10) (h2 : 0 ≤ q.Base ∧ q.Base ≤ q.Got.length) (h3 : q.Got.length ≤ 1000000) (h4 : q.Sent.length ≤ 1000000) :
    impl_Queue_packetOk_r q p = some (pktOk q p) := by
  unfold impl_Queue_packetOk_r pktOk
  by_cases ha : p.Ack = true
  · rw [if_pos ha, if_pos ha, impl_in_eq]
    simp only [Option.bind_some]
    by_cases h : 0 ≤ p.No ∧ p.No ≤ q.Got.length
    · rw [if_pos (by simp [h]), sEq]; simp [h]
    · rw [if_neg (by simpa using h)]; simp [h]
  · rw [if_neg ha, if_neg ha, impl_in_eq]
    simp only [Option.bind_some]
    rw [wI_id (n := q.Base + q.Window) (by omega), wI_id (by omega)]
    by_cases h : 0 ≤ p.No ∧ p.No ≤ min ((q.Sent.length : Nat) : Int) (q.Base + q.Window) - 1
    · rw [if_pos (decide_eq_true h), guard_pos (by omega), sEq, decide_eq_true (show 0 ≤ p.No ∧ p.No < q.Sent.length by omega), decide_eq_true (show p.No < q.Base + q.Window by omega)]
      rfl
    · rw [if_neg (by simpa using h)]
      by_cases h' : 0 ≤ p.No ∧ p.No < q.Sent.length
      · rw [decide_eq_true h', decide_eq_false (show ¬ p.No < q.Base + q.Window by omega)]; rfl
      · rw [decide_eq_false h']; rfl

theorem impl_ContainsSent_eq (l : List ByteArray) (h : l.length ≤ 9223372036854775807) : slices_ContainsFunc_string_impl_GoodQueue_c1 l = some (l.any fun s => decide (12 < s.size)) := by
  unfold slices_ContainsFunc_string_impl_GoodQueue_c1 slices_IndexFunc_string_impl_GoodQueue_c1
  have key := find_loop (step := slices_IndexFunc_string_impl_GoodQueue_c1_L1 l) (fun i => (⟨i⟩ : slices_IndexFunc_string_impl_GoodQueue_c1_G1)) l.length (fun i => decide (12 < (nth l i).size))
    (fun i => (.inl ⟨i⟩ : slices_IndexFunc_string_impl_GoodQueue_c1_P1_0 ⊕ Unit)) (.inr ()) (fun i hi hv => ?_) ?_
  · rw [key, ← findN_any]
    cases findN (fun i => decide (12 < (nth l i).size)) l.length <;> simp
  · unfold slices_IndexFunc_string_impl_GoodQueue_c1_L1 impl_GoodQueue_c1
    simp (disch := omega) only [decide_eq_true_eq, if_pos, guard_pos, Int.toNat_natCast, wI_id, Option.bind_some]
    by_cases h : 12 < (nth l i).size
    · rw [if_pos (by omega), if_pos h]
    · rw [if_neg (by omega), if_neg h]; rfl
  · unfold slices_IndexFunc_string_impl_GoodQueue_c1_L1
    rw [if_neg (by simp)]

theorem impl_ContainsLine_eq (l : List PacketT) (q : QueueT) (h : l.length ≤ 9223372036854775807) (h1 : 1 ≤ q.Window ∧ q.Window ≤ 10) (h2 : 0 ≤ q.Base ∧ q.Base ≤ q.Got.length) (h3 : q.Got.length ≤ 1000000) (h4 : q.Sent.length ≤ 1000000) :
    slices_ContainsFunc_impl_Packet_impl_GoodQueue_c2r l q = some (l.any fun p => !pktOk q p) := by
  unfold slices_ContainsFunc_impl_Packet_impl_GoodQueue_c2r slices_IndexFunc_impl_Packet_impl_GoodQueue_c2r
  have key := find_loop (step := slices_IndexFunc_impl_Packet_impl_GoodQueue_c2r_L1 l q) (fun i => (⟨i⟩ : slices_IndexFunc_impl_Packet_impl_GoodQueue_c2r_G1)) l.length (fun i => !pktOk q (nth l i))
    (fun i => (.inl ⟨i⟩ : slices_IndexFunc_impl_Packet_impl_GoodQueue_c2r_P1_0 ⊕ Unit)) (.inr ()) (fun i hi hv => ?_) ?_
  · rw [key, ← findN_any]
    cases findN (fun i => !pktOk q (nth l i)) l.length <;> simp
  · unfold slices_IndexFunc_impl_Packet_impl_GoodQueue_c2r_L1 impl_GoodQueue_c2_r
    simp (disch := omega) only [decide_eq_true_eq, if_pos, guard_pos, Int.toNat_natCast, wI_id]
    rw [impl_Queue_packetOk_r_eq q _ h1 h2 h3 h4]
    simp only [Option.bind_some]
    cases pktOk q (nth l i) <;> rfl
  · unfold slices_IndexFunc_impl_Packet_impl_GoodQueue_c2r_L1
    rw [if_neg (by simp)]

theorem slices_Equal_string_eq (a b : List ByteArray) (ha1 : a.length ≤ 9223372036854775807) : slices_Equal_string a b = some (decide (a = b)) := by
  unfold slices_Equal_string
  by_cases hl : a.length = b.length
  · rw [if_neg (by simp [hl])]
    have key := eq_loop (step := slices_Equal_string_L1 a b) (fun i => (⟨i⟩ : slices_Equal_string_G1)) a b hl (fun i hi => ?_) ?_
    · rw [key]; by_cases h : a = b <;> simp [h]
    · unfold slices_Equal_string_L1
      simp (disch := omega) only [decide_eq_true_eq, if_pos, guard_pos, Int.toNat_natCast, wI_id]
      rw [sEq]
      by_cases h : nth a i = nth b i <;> simp [h]
    · unfold slices_Equal_string_L1
      rw [if_neg (by simp)]
  · rw [if_pos (by simp; omega)]
    simp [show a ≠ b from fun h => hl (by rw [h])]

theorem impl_GoodQueue_eq (q : QueueT) (hs : q.Sent.length ≤ 9223372036854775807) (hg : q.Got.length ≤ 9223372036854775807) (hl : q.Line.length ≤ 9223372036854775807) : impl_GoodQueue q = some (goodQ q) := by
  unfold impl_GoodQueue goodQ
  rw [impl_in_eq, impl_in_eq, impl_ContainsSent_eq _ hs]
  simp only [Option.bind_some]
  by_cases c1 : 1 ≤ q.Window ∧ q.Window ≤ 10
  rotate_left
  · simp [c1]
  by_cases c2 : q.Sent.length ≤ 40
  rotate_left
  · rw [if_neg (by simp [c1]), if_pos (by simp; omega)]; simp [c2]
  by_cases c3 : (q.Sent.any fun s => decide (12 < s.size)) = true
  · rw [if_neg (by simp [c1]), if_neg (by simp; omega)]
    simp only [Option.bind_some]
    rw [if_pos c3]
    have : (q.Sent.all fun s => decide (s.size ≤ 12)) = false := by
      rw [← Bool.not_eq_true, List.all_eq_true]
      intro h
      obtain ⟨x, hx, hp⟩ := List.any_eq_true.1 c3
      have := h x hx
      simp at hp this
      omega
    simp [this]
  have c3' : (q.Sent.all fun s => decide (s.size ≤ 12)) = true := by
    rw [List.all_eq_true]
    intro x hx
    have : ¬ (12 < x.size) := fun h => c3 (List.any_eq_true.2 ⟨x, hx, by simp [h]⟩)
    simp; omega
  by_cases c4 : q.Got.length ≤ q.Sent.length
  rotate_left
  · rw [if_neg (by simp [c1]), if_neg (by simp; omega)]
    simp only [Option.bind_some]
    rw [if_neg c3, if_pos (by simp; omega)]; simp [c4]
  rw [if_neg (by simp [c1]), if_neg (by simp; omega)]
  simp only [Option.bind_some]
  rw [if_neg c3, if_neg (by simp; omega), guard_pos (by omega), slices_Equal_string_eq _ _ hg]
  simp only [Option.bind_some]
  by_cases c5 : q.Got = q.Sent.take q.Got.length
  rotate_left
  · rw [if_pos (by simpa using c5)]; simp [c5]
  rw [if_neg (by simpa using c5)]
  by_cases c6 : 0 ≤ q.Base ∧ q.Base ≤ q.Got.length
  rotate_left
  · rw [if_pos (by rw [decide_eq_false c6]; rfl)]; simp only [decide_eq_false c6, Bool.and_false, Bool.false_and]; rfl
  rw [if_neg (nt (by rw [decide_eq_true c6]; rfl))]
  simp only [Option.bind_some]
  by_cases c7 : q.Line.length ≤ 40
  rotate_left
  · rw [if_pos (by simp; omega)]; simp [c7]
  rw [if_neg (by simp; omega), impl_ContainsLine_eq _ _ hl c1 c6 (by omega) (by omega)]
  simp only [Option.bind_some, decide_eq_true c1, decide_eq_true c2, c3', decide_eq_true c4, decide_eq_true c5, decide_eq_true c6, decide_eq_true c7, Bool.true_and]
  rw [List.not_any_eq_all_not]
  simp

theorem spec_GoodQueue_eq (q : QueueT) (hs : q.Sent.length ≤ 9223372036854775807) (hg : q.Got.length ≤ 9223372036854775807) (hl : q.Line.length ≤ 9223372036854775807) : spec_GoodQueue q = some (goodQ q) := by
  unfold spec_GoodQueue goodQ
  rw [spec_l1In_eq, spec_l1In_eq]
  simp only [Option.bind_some]
  by_cases c1 : 1 ≤ q.Window ∧ q.Window ≤ 10
  rotate_left
  · simp [c1]
  by_cases c2 : q.Sent.length ≤ 40
  rotate_left
  · rw [if_neg (by simp [c1]), if_pos (by simp; omega)]; simp [c2]
  by_cases c4 : q.Got.length ≤ q.Sent.length
  rotate_left
  · rw [if_neg (by simp [c1]), if_neg (by simp; omega), if_pos (by simp; omega)]; simp [c4]
  by_cases c6 : 0 ≤ q.Base ∧ q.Base ≤ q.Got.length
  rotate_left
  · rw [if_neg (by simp [c1]), if_neg (by simp; omega), if_neg (by simp; omega), if_pos (by rw [decide_eq_false c6]; rfl)]; simp only [decide_eq_false c6, Bool.and_false, Bool.false_and]; rfl
  by_cases c7 : q.Line.length ≤ 40
  rotate_left
  · rw [if_neg (by simp [c1]), if_neg (by simp; omega), if_neg (by simp; omega), if_neg (nt (by rw [decide_eq_true c6]; rfl))]
    simp only [Option.bind_some]
    rw [if_pos (by simp; omega)]; simp [c7]
  rw [if_neg (by simp [c1]), if_neg (by simp; omega), if_neg (by simp; omega), if_neg (nt (by rw [decide_eq_true c6]; rfl))]
  simp only [Option.bind_some]
  rw [if_neg (by simp; omega)]
  have k1 := all_loop (step := spec_GoodQueue_L1 q) (fun i => (⟨i⟩ : spec_GoodQueue_G1)) q.Sent.length (fun i => decide ((nth q.Sent i).size ≤ 12) && (!decide (i < q.Got.length) || decide (nth q.Got i = nth q.Sent i)))
    (.inr () : Unit ⊕ Unit) (.inl ()) (fun i hi hv => ?_) (fun _ => ?_)
  rotate_left
  · unfold spec_GoodQueue_L1
    simp (disch := omega) only [decide_eq_true_eq, if_pos, guard_pos, Int.toNat_natCast, wI_id]
    by_cases h : (nth q.Sent i).size ≤ 12
    · rw [if_neg (by omega)]
      by_cases h2 : i < q.Got.length
      · rw [if_pos (by omega), sEq]
        by_cases h3 : nth q.Got i = nth q.Sent i <;> simp [h, h2, h3]
      · rw [if_neg (by omega)]; simp [h, h2]
    · rw [if_pos (by omega)]; simp [h]
  · unfold spec_GoodQueue_L1
    rw [if_neg (by simp)]
  have k2 := all_loop (step := spec_GoodQueue_L2 q) (fun i => (⟨i⟩ : spec_GoodQueue_G2)) q.Line.length (fun i => pktOk q (nth q.Line i)) (.inr () : Unit ⊕ Unit) (.inl ()) (fun i hi hv => ?_) (fun _ => ?_)
  rotate_left
  · unfold spec_GoodQueue_L2 pktOk
    simp (disch := omega) only [decide_eq_true_eq, if_pos, guard_pos, Int.toNat_natCast, wI_id, spec_l1In_eq, Option.bind_some]
    by_cases ha : (nth q.Line i).Ack = true
    · rw [if_pos ha, if_pos ha]
      by_cases h : 0 ≤ (nth q.Line i).No ∧ (nth q.Line i).No ≤ q.Got.length
      · rw [if_neg (nt (by rw [decide_eq_true h]; rfl)), sEq]
        simp only [Option.bind_some, decide_eq_true h]
        by_cases h3 : (nth q.Line i).Text = ByteArray.empty <;> simp [h3]
      · rw [if_pos (by rw [decide_eq_false h]; rfl)]
        simp only [Option.bind_some, decide_eq_false h]; rfl
    · rw [if_neg ha, if_neg ha]
      by_cases h : 0 ≤ (nth q.Line i).No ∧ (nth q.Line i).No < q.Sent.length
      · rw [if_neg (nt (by rw [decide_eq_true (by omega)]; rfl))]
        by_cases h2 : (nth q.Line i).No < q.Base + q.Window
        · rw [if_neg (by omega), sEq]
          simp only [Option.bind_some, decide_eq_true h, decide_eq_true h2]
          rw [guard_pos (by omega)]
          simp only [Option.bind_some]
          by_cases h3 : (nth q.Line i).Text = nth q.Sent (nth q.Line i).No.toNat <;> simp [h3]
        · rw [if_pos (by omega)]
          simp only [Option.bind_some, decide_eq_true h, decide_eq_false h2]; rfl
      · rw [if_pos (by rw [decide_eq_false (by omega)]; rfl)]
        simp only [Option.bind_some, decide_eq_false h, Bool.false_and]; rfl
  · unfold spec_GoodQueue_L2
    rw [if_neg (by simp)]
  rw [k1, k2, allN_nth q.Line (pktOk q)]
  have e : allN (fun i => decide ((nth q.Sent i).size ≤ 12) && (!decide (i < q.Got.length) || decide (nth q.Got i = nth q.Sent i))) q.Sent.length = (q.Sent.all (fun s => decide (s.size ≤ 12)) && decide (q.Got = q.Sent.take q.Got.length)) := by
    rw [Bool.eq_iff_iff, allN_iff, Bool.and_eq_true, ← allN_nth, allN_iff, decide_eq_true_eq]
    constructor
    · intro h
      refine ⟨fun i hi => by have := h i hi; simp at this; simp [this.1], list_ext (by simp; omega) fun j hj => ?_⟩
      have := h j (by omega)
      simp [hj] at this
      rw [this.2, nth_eq (by omega), nth_eq (by simp; omega)]
      simp
    · rintro ⟨h1, h2⟩ i hi
      simp only [Bool.and_eq_true, Bool.or_eq_true, Bool.not_eq_true', decide_eq_false_iff_not, decide_eq_true_eq]
      refine ⟨by simpa using h1 i hi, ?_⟩
      by_cases hj : i < q.Got.length
      · right
        rw [h2, nth_eq (by simp; omega), nth_eq hi]
        simp
      · left; exact hj
  rw [e]
  simp only [decide_eq_true c1, decide_eq_true c2, decide_eq_true c4, decide_eq_true c6, decide_eq_true c7, Bool.true_and, Bool.and_true]
  cases (q.Sent.all fun s => decide (s.size ≤ 12)) <;> cases decide (q.Got = q.Sent.take q.Got.length) <;> cases q.Line.all (pktOk q) <;> rfl

theorem szr_ok {s : Nat} {n : Int} (h : (s : Int) ≤ n) : ¬ szr s n < 0 := by unfold szr; rw [if_pos h]; omega
theorem szr_no {s : Nat} {n : Int} (h : ¬ (s : Int) ≤ n) : szr s n < 0 := by unfold szr; rw [if_neg h]; omega

theorem good_holds (q : QueueT) (hq : ok_Queue q) : laws_FnExactGoodQueue q = some true := by
  unfold laws_FnExactGoodQueue
  rw [laws_szQueue_eq _ _ hq (by omega) (by omega)]
  simp only [Option.bind_some]
  by_cases h : (siz_Queue q : Int) ≤ 1048576
  rotate_left
  · rw [if_pos (decide_eq_true (szr_no h))]
  rw [if_neg (by simpa using szr_ok h), laws_toQueue_eq _ (by omega)]
  have hk := lk_of_Queue hq
  simp only [Option.bind_some]
  rw [spec_GoodQueue_eq _ hk.2.1.1 hk.2.2.2.1.1 hk.2.2.2.2.1, impl_GoodQueue_eq _ hk.2.1.1 hk.2.2.2.1.1 hk.2.2.2.2.1, laws_eqQueue_eq _ _ hk]
  simp

theorem waiting_holds (q : QueueT) (hq : ok_Queue q) : laws_FnExactWaitingIn q = some true := by
  unfold laws_FnExactWaitingIn
  rw [laws_szQueue_eq _ _ hq (by omega) (by omega)]
  simp only [Option.bind_some]
  by_cases h : (siz_Queue q : Int) ≤ 1048576
  rotate_left
  · rw [if_pos (decide_eq_true (szr_no h))]
  rw [if_neg (by simpa using szr_ok h), laws_toQueue_eq _ (by omega)]
  have hk := lk_of_Queue hq
  simp only [Option.bind_some]
  unfold spec_WaitingIn impl_WaitingIn
  rw [spec_GoodQueue_eq _ hk.2.1.1 hk.2.2.2.1.1 hk.2.2.2.2.1, impl_GoodQueue_eq _ hk.2.1.1 hk.2.2.2.1.1 hk.2.2.2.2.1, laws_eqQueue_eq _ _ hk]
  simp only [Option.bind_some]
  cases goodQ q <;> simp
end Go.TL

import Derived.Test.YtjhcfmcdllfmpaaDoorG19PlR1
import Derived.Test.YtjhcfmcdllfmpaaDoorPlLib
set_option linter.unusedSimpArgs false
set_option linter.unusedVariables false
set_option linter.unusedVariables false
set_option linter.unusedSimpArgs false
set_option maxRecDepth 4000
namespace Go.TL
def ok_S (x : ByteArray) : Prop := x.size ≤ 9223372036854775807
def siz_S (x : ByteArray) : Nat := x.size
def lk_S (_ : ByteArray) : Prop := True
theorem lk_of_S {x : ByteArray} (_ : ok_S x) : lk_S x := trivial
def ok_LS (x : (List ByteArray)) : Prop := x.length ≤ 9223372036854775807 ∧ ∀ y ∈ x, ok_S y
def siz_LS (x : (List ByteArray)) : Nat := x.length + sumN (x.map siz_S)
def lk_LS (x : (List ByteArray)) : Prop := x.length ≤ 9223372036854775807 ∧ ∀ y ∈ x, lk_S y
theorem lk_of_LS {x : (List ByteArray)} (h : ok_LS x) : lk_LS x := ⟨h.1, fun y hy => lk_of_S (h.2 y hy)⟩
theorem laws_szStringS_eq (a : (List ByteArray)) (n : Int) (ha : ok_LS a) (h0 : 0 ≤ n) (h1 : n ≤ 4611686018427387904) : laws_szStringS a n = some (szr (siz_LS a) n) := by
  obtain ⟨ha1, ha2⟩ := ha
  unfold laws_szStringS
  rw [wI_id (by omega)]
  by_cases hc : n - ((a.length : Nat) : Int) < 0
  · rw [if_pos (decide_eq_true hc)]
    unfold szr siz_LS
    rw [if_neg (by omega)]
  · rw [if_neg (by simpa using hc)]
    have key := sz_loop (step := laws_szStringS_L1 a) (fun i s => (⟨s, i⟩ : laws_szStringS_G1)) a siz_S n (fun s => (.inr ⟨s⟩ : Unit ⊕ laws_szStringS_P1_1)) (.inl ()) (fun i s hi hs => ?_) (fun s hs => ?_) (n - ((a.length : Nat) : Int)) ⟨by omega, by omega⟩
    · rw [key]
      unfold szr siz_LS
      by_cases h : (sumN (a.map siz_S) : Int) ≤ n - ((a.length : Nat) : Int)
      · rw [if_pos h, if_pos (by omega)]; simp only [Option.bind_some]; congr 1; omega
      · rw [if_neg h, if_neg (by omega)]; rfl
    · have hm := ha2 _ (nth_mem hi)
      unfold laws_szStringS_L1
      unfold ok_S at hm
      have hsz : siz_S (nth a i) = (nth a i).size := rfl
      rw [hsz]
      simp (disch := omega) only [decide_eq_true_eq, if_pos, guard_pos, Int.toNat_natCast, wI_id]
      by_cases h : ((nth a i).size : Int) ≤ s
      · rw [if_pos h, if_neg (by omega)]; rfl
      · rw [if_neg h, if_pos (by omega)]
    · unfold laws_szStringS_L1
      rw [if_neg (by simp)]
def ok_B (_ : Bool) : Prop := True
def siz_B (_ : Bool) : Nat := 0
def lk_B (_ : Bool) : Prop := True
theorem lk_of_B {x : Bool} (_ : ok_B x) : lk_B x := trivial
def ok_I (x : Int) : Prop := -9223372036854775808 ≤ x ∧ x ≤ 9223372036854775807
def siz_I (_ : Int) : Nat := 0
def lk_I (_ : Int) : Prop := True
theorem lk_of_I {x : Int} (_ : ok_I x) : lk_I x := trivial
def ok_Packet (x : PacketT) : Prop := ok_B x.Ack ∧ ok_I x.No ∧ ok_S x.Text
def siz_Packet (x : PacketT) : Nat := siz_B x.Ack + siz_I x.No + siz_S x.Text
def lk_Packet (x : PacketT) : Prop := lk_B x.Ack ∧ lk_I x.No ∧ lk_S x.Text
theorem lk_of_Packet {x : PacketT} (h : ok_Packet x) : lk_Packet x := ⟨lk_of_B h.1, lk_of_I h.2.1, lk_of_S h.2.2⟩
theorem siz0_B (x : Bool) : siz_B x = 0 := rfl
theorem siz0_I (x : Int) : siz_I x = 0 := rfl
theorem laws_szPacket_eq (a : PacketT) (n : Int) (ha : ok_Packet a) (h0 : 0 ≤ n) (h1 : n ≤ 4611686018427387904) : laws_szPacket a n = some (szr (siz_Packet a) n) := by
  unfold laws_szPacket
  unfold ok_Packet at ha
  unfold siz_Packet
  have z_Ack : siz_B a.Ack = 0 := siz0_B _
  rw [z_Ack]
  have z_No : siz_I a.No = 0 := siz0_I _
  rw [z_No]
  have q0 : a.Text.size ≤ 9223372036854775807 := ha.2.2
  have z0 : siz_S a.Text = a.Text.size := rfl
  rw [z0, wI_id (by omega)]
  have e0 : szr a.Text.size (n) = if (a.Text.size : Int) ≤ n then n - (a.Text.size : Int) else -1 := rfl
  by_cases c0 : (a.Text.size : Int) ≤ n
  rotate_left
  · rw [if_pos (by simp; omega)]; unfold szr; rw [if_neg (by omega)]
  rw [if_neg (by simp; omega)]
  unfold szr; rw [if_pos (by omega)]
  congr 1; omega
def ok_LPacket (x : (List PacketT)) : Prop := x.length ≤ 9223372036854775807 ∧ ∀ y ∈ x, ok_Packet y
def siz_LPacket (x : (List PacketT)) : Nat := x.length + sumN (x.map siz_Packet)
def lk_LPacket (x : (List PacketT)) : Prop := x.length ≤ 9223372036854775807 ∧ ∀ y ∈ x, lk_Packet y
theorem lk_of_LPacket {x : (List PacketT)} (h : ok_LPacket x) : lk_LPacket x := ⟨h.1, fun y hy => lk_of_Packet (h.2 y hy)⟩
theorem laws_szPacketS_eq (a : (List PacketT)) (n : Int) (ha : ok_LPacket a) (h0 : 0 ≤ n) (h1 : n ≤ 4611686018427387904) : laws_szPacketS a n = some (szr (siz_LPacket a) n) := by
  obtain ⟨ha1, ha2⟩ := ha
  unfold laws_szPacketS
  rw [wI_id (by omega)]
  by_cases hc : n - ((a.length : Nat) : Int) < 0
  · rw [if_pos (decide_eq_true hc)]
    unfold szr siz_LPacket
    rw [if_neg (by omega)]
  · rw [if_neg (by simpa using hc)]
    have key := sz_loop (step := laws_szPacketS_L1 a) (fun i s => (⟨s, i⟩ : laws_szPacketS_G1)) a siz_Packet n (fun s => (.inr ⟨s⟩ : Unit ⊕ laws_szPacketS_P1_1)) (.inl ()) (fun i s hi hs => ?_) (fun s hs => ?_) (n - ((a.length : Nat) : Int)) ⟨by omega, by omega⟩
    · rw [key]
      unfold szr siz_LPacket
      by_cases h : (sumN (a.map siz_Packet) : Int) ≤ n - ((a.length : Nat) : Int)
      · rw [if_pos h, if_pos (by omega)]; simp only [Option.bind_some]; congr 1; omega
      · rw [if_neg h, if_neg (by omega)]; rfl
    · have hm := ha2 _ (nth_mem hi)
      unfold laws_szPacketS_L1
      simp (disch := omega) only [decide_eq_true_eq, if_pos, guard_pos, Int.toNat_natCast, wI_id]
      rw [laws_szPacket_eq _ _ hm (by omega) (by omega)]
      simp only [Option.bind_some]
      unfold szr
      by_cases h : (siz_Packet (nth a i) : Int) ≤ s
      · rw [if_pos h, if_pos h, if_neg (by omega)]; rfl
      · rw [if_neg h, if_neg h, if_pos (by omega)]
    · unfold laws_szPacketS_L1
      rw [if_neg (by simp)]
def ok_Queue (x : QueueT) : Prop := ok_I x.Window ∧ ok_LS x.Sent ∧ ok_I x.Base ∧ ok_LS x.Got ∧ ok_LPacket x.Line
def siz_Queue (x : QueueT) : Nat := siz_I x.Window + siz_LS x.Sent + siz_I x.Base + siz_LS x.Got + siz_LPacket x.Line
def lk_Queue (x : QueueT) : Prop := lk_I x.Window ∧ lk_LS x.Sent ∧ lk_I x.Base ∧ lk_LS x.Got ∧ lk_LPacket x.Line
theorem lk_of_Queue {x : QueueT} (h : ok_Queue x) : lk_Queue x := ⟨lk_of_I h.1, lk_of_LS h.2.1, lk_of_I h.2.2.1, lk_of_LS h.2.2.2.1, lk_of_LPacket h.2.2.2.2⟩
theorem laws_szQueue_eq (a : QueueT) (n : Int) (ha : ok_Queue a) (h0 : 0 ≤ n) (h1 : n ≤ 4611686018427387904) : laws_szQueue a n = some (szr (siz_Queue a) n) := by
  unfold laws_szQueue
  unfold ok_Queue at ha
  unfold siz_Queue
  have z_Window : siz_I a.Window = 0 := siz0_I _
  rw [z_Window]
  have z_Base : siz_I a.Base = 0 := siz0_I _
  rw [z_Base]
  rw [laws_szStringS_eq _ _ (ha.2.1) (by omega) (by omega)]
  simp only [Option.bind_some]
  by_cases c0 : (siz_LS a.Sent : Int) ≤ n
  rotate_left
  · have e : szr (siz_LS a.Sent) n = -1 := by unfold szr; rw [if_neg c0]
    rw [e, if_pos (by decide)]; unfold szr; rw [if_neg (by omega)]
  have e0 : szr (siz_LS a.Sent) n = n - (siz_LS a.Sent : Int) := by unfold szr; rw [if_pos c0]
  rw [e0, if_neg (by simp; omega)]
  rw [laws_szStringS_eq _ _ (ha.2.2.2.1) (by omega) (by omega)]
  simp only [Option.bind_some]
  by_cases c1 : (siz_LS a.Got : Int) ≤ (n - (siz_LS a.Sent : Int))
  rotate_left
  · have e : szr (siz_LS a.Got) (n - (siz_LS a.Sent : Int)) = -1 := by unfold szr; rw [if_neg c1]
    rw [e, if_pos (by decide)]; unfold szr; rw [if_neg (by omega)]
  have e1 : szr (siz_LS a.Got) (n - (siz_LS a.Sent : Int)) = (n - (siz_LS a.Sent : Int)) - (siz_LS a.Got : Int) := by unfold szr; rw [if_pos c1]
  rw [e1, if_neg (by simp; omega)]
  rw [laws_szPacketS_eq _ _ (ha.2.2.2.2) (by omega) (by omega)]
  simp only [Option.bind_some]
  by_cases c2 : (siz_LPacket a.Line : Int) ≤ ((n - (siz_LS a.Sent : Int)) - (siz_LS a.Got : Int))
  rotate_left
  · have e : szr (siz_LPacket a.Line) ((n - (siz_LS a.Sent : Int)) - (siz_LS a.Got : Int)) = -1 := by unfold szr; rw [if_neg c2]
    rw [e, if_pos (by decide)]; unfold szr; rw [if_neg (by omega)]
  have e2 : szr (siz_LPacket a.Line) ((n - (siz_LS a.Sent : Int)) - (siz_LS a.Got : Int)) = ((n - (siz_LS a.Sent : Int)) - (siz_LS a.Got : Int)) - (siz_LPacket a.Line : Int) := by unfold szr; rw [if_pos c2]
  rw [e2, if_neg (by simp; omega)]
  unfold szr; rw [if_pos (by omega)]
  congr 1; omega
theorem laws_toStringS_eq (a : (List ByteArray)) (ha : siz_LS a ≤ 4194304) : laws_toStringS a = some a := by
  unfold siz_LS at ha
  unfold laws_toStringS
  rw [guard_pos (by omega)]
  have key := fill_loop (step := laws_toStringS_L1 a) (fun i l => (⟨i, l⟩ : laws_toStringS_G1)) a (fun x => x) (fun l => (⟨l⟩ : laws_toStringS_P1_0)) (fun i l hi hl => ?_) (fun l hl => ?_) (List.replicate a.length ByteArray.empty) (by simp)
  · rw [key]; simp
  · unfold laws_toStringS_L1
    simp (disch := omega) only [decide_eq_true_eq, if_pos, guard_pos, Int.toNat_natCast, wI_id]
    rfl
  · unfold laws_toStringS_L1
    rw [if_neg (by simp)]
theorem laws_toPacket_eq (a : PacketT) (ha : siz_Packet a ≤ 4194304) : laws_toPacket a = some a := by
  unfold siz_Packet at ha
  unfold laws_toPacket
  all_goals rfl
theorem laws_toPacketS_eq (a : (List PacketT)) (ha : siz_LPacket a ≤ 4194304) : laws_toPacketS a = some a := by
  unfold siz_LPacket at ha
  unfold laws_toPacketS
  rw [guard_pos (by omega)]
  have key := fill_loop (step := laws_toPacketS_L1 a) (fun i l => (⟨i, l⟩ : laws_toPacketS_G1)) a (fun x => x) (fun l => (⟨l⟩ : laws_toPacketS_P1_0)) (fun i l hi hl => ?_) (fun l hl => ?_) (List.replicate a.length (⟨false, 0, ByteArray.empty⟩ : PacketT)) (by simp)
  · rw [key]; simp
  · unfold laws_toPacketS_L1
    have hm : siz_Packet (nth a i) ≤ 4194304 := Nat.le_trans (sumN_mem siz_Packet (nth_mem hi)) (by omega)
    simp (disch := omega) only [decide_eq_true_eq, if_pos, guard_pos, Int.toNat_natCast, wI_id]
    rw [laws_toPacket_eq _ hm]
    simp (disch := omega) only [Option.bind_some, guard_pos]
    rfl
  · unfold laws_toPacketS_L1
    rw [if_neg (by simp)]
theorem laws_toQueue_eq (a : QueueT) (ha : siz_Queue a ≤ 4194304) : laws_toQueue a = some a := by
  unfold siz_Queue at ha
  unfold laws_toQueue
  rw [laws_toStringS_eq _ (by omega)]
  simp only [Option.bind_some]
  rw [laws_toStringS_eq _ (by omega)]
  simp only [Option.bind_some]
  rw [laws_toPacketS_eq _ (by omega)]
  simp only [Option.bind_some]
  all_goals rfl
theorem laws_eqStringS_eq (a b : (List ByteArray)) (ha : lk_LS a) : laws_eqStringS a b = some (decide (a = b)) := by
  obtain ⟨ha1, ha2⟩ := ha
  unfold laws_eqStringS
  by_cases hl : a.length = b.length
  · rw [if_neg (by simp [hl])]
    have key := eq_loop (step := laws_eqStringS_L1 a b) (fun i => (⟨i⟩ : laws_eqStringS_G1)) a b hl (fun i hi => ?_) ?_
    · rw [key]; by_cases h : a = b <;> simp [h]
    · have hm := ha2 _ (nth_mem hi)
      unfold laws_eqStringS_L1
      simp (disch := omega) only [decide_eq_true_eq, if_pos, guard_pos, Int.toNat_natCast, wI_id]
      rw [sEq]
      by_cases h : nth a i = nth b i <;> simp [h]
    · unfold laws_eqStringS_L1
      rw [if_neg (by simp)]
  · rw [if_pos (by simp; omega)]
    simp [show a ≠ b from fun h => hl (by rw [h])]
theorem laws_eqPacket_eq (a b : PacketT) (ha : lk_Packet a) : laws_eqPacket a b = some (decide (a = b)) := by
  unfold lk_Packet at ha
  unfold laws_eqPacket
  obtain ⟨x0, x1, x2⟩ := a
  obtain ⟨y0, y1, y2⟩ := b
  simp only [sEq, Option.bind_some, PacketT.mk.injEq]
  by_cases h0 : x0 = y0
  rotate_left
  · simp [h0]
  by_cases h1 : x1 = y1
  rotate_left
  · simp [h1]
  by_cases h2 : x2 = y2
  rotate_left
  · simp [h2]
  simp [h0, h1, h2]
theorem laws_eqPacketS_eq (a b : (List PacketT)) (ha : lk_LPacket a) : laws_eqPacketS a b = some (decide (a = b)) := by
  obtain ⟨ha1, ha2⟩ := ha
  unfold laws_eqPacketS
  by_cases hl : a.length = b.length
  · rw [if_neg (by simp [hl])]
    have key := eq_loop (step := laws_eqPacketS_L1 a b) (fun i => (⟨i⟩ : laws_eqPacketS_G1)) a b hl (fun i hi => ?_) ?_
    · rw [key]; by_cases h : a = b <;> simp [h]
    · have hm := ha2 _ (nth_mem hi)
      unfold laws_eqPacketS_L1
      simp (disch := omega) only [decide_eq_true_eq, if_pos, guard_pos, Int.toNat_natCast, wI_id]
      rw [laws_eqPacket_eq _ _ hm]; simp only [Option.bind_some]
      by_cases h : nth a i = nth b i <;> simp [h]
    · unfold laws_eqPacketS_L1
      rw [if_neg (by simp)]
  · rw [if_pos (by simp; omega)]
    simp [show a ≠ b from fun h => hl (by rw [h])]
theorem laws_eqQueue_eq (a b : QueueT) (ha : lk_Queue a) : laws_eqQueue a b = some (decide (a = b)) := by
  unfold lk_Queue at ha
  unfold laws_eqQueue
  rw [laws_eqStringS_eq _ _ (ha.2.1)]
  rw [laws_eqStringS_eq _ _ (ha.2.2.2.1)]
  rw [laws_eqPacketS_eq _ _ (ha.2.2.2.2)]
  obtain ⟨x0, x1, x2, x3, x4⟩ := a
  obtain ⟨y0, y1, y2, y3, y4⟩ := b
  simp only [sEq, Option.bind_some, QueueT.mk.injEq]
  by_cases h0 : x0 = y0
  rotate_left
  · simp [h0]
  by_cases h1 : x1 = y1
  rotate_left
  · simp [h1]
  by_cases h2 : x2 = y2
  rotate_left
  · simp [h2]
  by_cases h3 : x3 = y3
  rotate_left
  · simp [h3]
  by_cases h4 : x4 = y4
  rotate_left
  · simp [h4]
  simp [h0, h1, h2, h3, h4]
end Go.TL
namespace Go.TL

theorem spec_l1In_eq (n a b : Int) : spec_l1In n a b = some (decide (a ≤ n ∧ n ≤ b)) := by
  unfold spec_l1In
  by_cases h : a ≤ n <;> simp [h]
theorem impl_in_eq (n a b : Int) : impl_in n a b = some (decide (a ≤ n ∧ n ≤ b)) := spec_l1In_eq n a b

def pktOk (q : QueueT) (p : PacketT) : Bool :=
  if p.Ack = true then decide (0 ≤ p.No ∧ p.No ≤ q.Got.length) && decide (p.Text = ByteArray.empty)
  else decide (0 ≤ p.No ∧ p.No < q.Sent.length) && decide (p.No < q.Base + q.Window) && decide (p.Text = nth q.Sent p.No.toNat)
def goodQ (q : QueueT) : Bool :=
  decide (1 ≤ q.Window ∧ q.Window ≤ 10) && decide (q.Sent.length ≤ 40) && q.Sent.all (fun s => decide (s.size ≤ 12)) && decide (q.Got.length ≤ q.Sent.length) &&
    decide (q.Got = q.Sent.take q.Got.length) && decide (0 ≤ q.Base ∧ q.Base ≤ q.Got.length) && decide (q.Line.length ≤ 40) && q.Line.all (pktOk q)

theorem sEq_empty (a : ByteArray) : (a.toList == ByteArray.empty.toList) = decide (a = ByteArray.empty) := sEq _ _

theorem impl_Queue_packetOk_r_eq (q : QueueT) (p : PacketT) (h1 : 1 ≤ q.Window ∧ q.Window ≤ 10) (h2 : 0 ≤ q.Base ∧ q.Base ≤ q.Got.length) (h3 : q.Got.length ≤ 1000000) (h4 : q.Sent.length ≤ 1000000) :
    impl_Queue_packetOk_r q p = some (pktOk q p) := by
  unfold impl_Queue_packetOk_r pktOk
  by_cases ha : p.Ack = true
  · rw [if_pos ha, if_pos ha, impl_in_eq]
    simp only [Option.bind_some]
    by_cases h : 0 ≤ p.No ∧ p.No ≤ q.Got.length
    · rw [if_pos (by simp [h]), sEq]; simp [h]
    · rw [if_neg (by simpa using h)]; simp [h]
  · rw [if_neg ha, if_neg ha, impl_in_eq]
    simp only [Option.bind_some]
    rw [wI_id (n := q.Base + q.Window) (by omega), wI_id (by omega)]
    by_cases h : 0 ≤ p.No ∧ p.No ≤ min ((q.Sent.length : Nat) : Int) (q.Base + q.Window) - 1
    · rw [if_pos (decide_eq_true h), guard_pos (by omega), sEq, decide_eq_true (show 0 ≤ p.No ∧ p.No < q.Sent.length by omega), decide_eq_true (show p.No < q.Base + q.Window by omega)]
      rfl
    · rw [if_neg (by simpa using h)]
      by_cases h' : 0 ≤ p.No ∧ p.No < q.Sent.length
      · rw [decide_eq_true h', decide_eq_false (show ¬ p.No < q.Base + q.Window by omega)]; rfl
      · rw [decide_eq_false h']; rfl

theorem impl_ContainsSent_eq (l : List ByteArray) (h : l.length ≤ 9223372036854775807) : slices_ContainsFunc_string_impl_GoodQueue_c1 l = some (l.any fun s => decide (12 < s.size)) := by
  unfold slices_ContainsFunc_string_impl_GoodQueue_c1 slices_IndexFunc_string_impl_GoodQueue_c1
  have key := find_loop (step := slices_IndexFunc_string_impl_GoodQueue_c1_L1 l) (fun i => (⟨i⟩ : slices_IndexFunc_string_impl_GoodQueue_c1_G1)) l.length (fun i => decide (12 < (nth l i).size))
    (fun i => (.inl ⟨i⟩ : slices_IndexFunc_string_impl_GoodQueue_c1_P1_0 ⊕ Unit)) (.inr ()) (fun i hi hv => ?_) ?_
  · rw [key, ← findN_any]
    cases findN (fun i => decide (12 < (nth l i).size)) l.length <;> simp
  · unfold slices_IndexFunc_string_impl_GoodQueue_c1_L1 impl_GoodQueue_c1
    simp (disch := omega) only [decide_eq_true_eq, if_pos, guard_pos, Int.toNat_natCast, wI_id, Option.bind_some]
    by_cases h : 12 < (nth l i).size
    · rw [if_pos (by omega), if_pos h]
    · rw [if_neg (by omega), if_neg h]; rfl
  · unfold slices_IndexFunc_string_impl_GoodQueue_c1_L1
    rw [if_neg (by simp)]

theorem impl_ContainsLine_eq (l : List PacketT) (q : QueueT) (h : l.length ≤ 9223372036854775807) (h1 : 1 ≤ q.Window ∧ q.Window ≤ 10) (h2 : 0 ≤ q.Base ∧ q.Base ≤ q.Got.length) (h3 : q.Got.length ≤ 1000000) (h4 : q.Sent.length ≤ 1000000) :
    slices_ContainsFunc_impl_Packet_impl_GoodQueue_c2r l q = some (l.any fun p => !pktOk q p) := by
  unfold slices_ContainsFunc_impl_Packet_impl_GoodQueue_c2r slices_IndexFunc_impl_Packet_impl_GoodQueue_c2r
  have key := find_loop (step := slices_IndexFunc_impl_Packet_impl_GoodQueue_c2r_L1 l q) (fun i => (⟨i⟩ : slices_IndexFunc_impl_Packet_impl_GoodQueue_c2r_G1)) l.length (fun i => !pktOk q (nth l i))
    (fun i => (.inl ⟨i⟩ : slices_IndexFunc_impl_Packet_impl_GoodQueue_c2r_P1_0 ⊕ Unit)) (.inr ()) (fun i hi hv => ?_) ?_
  · rw [key, ← findN_any]
    cases findN (fun i => !pktOk q (nth l i)) l.length <;> simp
  · unfold slices_IndexFunc_impl_Packet_impl_GoodQueue_c2r_L1 impl_GoodQueue_c2_r
    simp (disch := omega) only [decide_eq_true_eq, if_pos, guard_pos, Int.toNat_natCast, wI_id]
    rw [impl_Queue_packetOk_r_eq q _ h1 h2 h3 h4]
    simp only [Option.bind_some]
    cases pktOk q (nth l i) <;> rfl
  · unfold slices_IndexFunc_impl_Packet_impl_GoodQueue_c2r_L1
    rw [if_neg (by simp)]

theorem slices_Equal_string_eq (a b : List ByteArray) (ha1 : a.length ≤ 9223372036854775807) : slices_Equal_string a b = some (decide (a = b)) := by
  unfold slices_Equal_string
  by_cases hl : a.length = b.length
  · rw [if_neg (by simp [hl])]
    have key := eq_loop (step := slices_Equal_string_L1 a b) (fun i => (⟨i⟩ : slices_Equal_string_G1)) a b hl (fun i hi => ?_) ?_
    · rw [key]; by_cases h : a = b <;> simp [h]
    · unfold slices_Equal_string_L1
      simp (disch := omega) only [decide_eq_true_eq, if_pos, guard_pos, Int.toNat_natCast, wI_id]
      rw [sEq]
      by_cases h : nth a i = nth b i <;> simp [h]
    · unfold slices_Equal_string_L1
      rw [if_neg (by simp)]
  · rw [if_pos (by simp; omega)]
    simp [show a ≠ b from fun h => hl (by rw [h])]

theorem impl_GoodQueue_eq (q : QueueT) (hs : q.Sent.length ≤ 9223372036854775807) (hg : q.Got.length ≤ 9223372036854775807) (hl : q.Line.length ≤ 9223372036854775807) : impl_GoodQueue q = some (goodQ q) := by
  unfold impl_GoodQueue goodQ
  rw [impl_in_eq, impl_in_eq, impl_ContainsSent_eq _ hs]
  simp only [Option.bind_some]
  by_cases c1 : 1 ≤ q.Window ∧ q.Window ≤ 10
  rotate_left
  · simp [c1]
  by_cases c2 : q.Sent.length ≤ 40
  rotate_left
  · rw [if_neg (by simp [c1]), if_pos (by simp; omega)]; simp [c2]
  by_cases c3 : (q.Sent.any fun s => decide (12 < s.size)) = true
  · rw [if_neg (by simp [c1]), if_neg (by simp; omega)]
    simp only [Option.bind_some]
    rw [if_pos c3]
    have : (q.Sent.all fun s => decide (s.size ≤ 12)) = false := by
      rw [← Bool.not_eq_true, List.all_eq_true]
      intro h
      obtain ⟨x, hx, hp⟩ := List.any_eq_true.1 c3
      have := h x hx
      simp at hp this
      omega
    simp [this]
  have c3' : (q.Sent.all fun s => decide (s.size ≤ 12)) = true := by
    rw [List.all_eq_true]
    intro x hx
    have : ¬ (12 < x.size) := fun h => c3 (List.any_eq_true.2 ⟨x, hx, by simp [h]⟩)
    simp; omega
  by_cases c4 : q.Got.length ≤ q.Sent.length
  rotate_left
  · rw [if_neg (by simp [c1]), if_neg (by simp; omega)]
    simp only [Option.bind_some]
    rw [if_neg c3, if_pos (by simp; omega)]; simp [c4]
  rw [if_neg (by simp [c1]), if_neg (by simp; omega)]
  simp only [Option.bind_some]
  rw [if_neg c3, if_neg (by simp; omega), guard_pos (by omega), slices_Equal_string_eq _ _ hg]
  simp only [Option.bind_some]
  by_cases c5 : q.Got = q.Sent.take q.Got.length
  rotate_left
  · rw [if_pos (by simpa using c5)]; simp [c5]
  rw [if_neg (by simpa using c5)]
  by_cases c6 : 0 ≤ q.Base ∧ q.Base ≤ q.Got.length
  rotate_left
  · rw [if_pos (by rw [decide_eq_false c6]; rfl)]; simp only [decide_eq_false c6, Bool.and_false, Bool.false_and]; rfl
  rw [if_neg (nt (by rw [decide_eq_true c6]; rfl))]
  simp only [Option.bind_some]
  by_cases c7 : q.Line.length ≤ 40
  rotate_left
  · rw [if_pos (by simp; omega)]; simp [c7]
  rw [if_neg (by simp; omega), impl_ContainsLine_eq _ _ hl c1 c6 (by omega) (by omega)]
  simp only [Option.bind_some, decide_eq_true c1, decide_eq_true c2, c3', decide_eq_true c4, decide_eq_true c5, decide_eq_true c6, decide_eq_true c7, Bool.true_and]
  rw [List.not_any_eq_all_not]
  simp

theorem spec_GoodQueue_eq (q : QueueT) (hs : q.Sent.length ≤ 9223372036854775807) (hg : q.Got.length ≤ 9223372036854775807) (hl : q.Line.length ≤ 9223372036854775807) : spec_GoodQueue q = some (goodQ q) := by
  unfold spec_GoodQueue goodQ
  rw [spec_l1In_eq, spec_l1In_eq]
  simp only [Option.bind_some]
  by_cases c1 : 1 ≤ q.Window ∧ q.Window ≤ 10
  rotate_left
  · simp [c1]
  by_cases c2 : q.Sent.length ≤ 40
  rotate_left
  · rw [if_neg (by simp [c1]), if_pos (by simp; omega)]; simp [c2]
  by_cases c4 : q.Got.length ≤ q.Sent.length
  rotate_left
  · rw [if_neg (by simp [c1]), if_neg (by simp; omega), if_pos (by simp; omega)]; simp [c4]
  by_cases c6 : 0 ≤ q.Base ∧ q.Base ≤ q.Got.length
  rotate_left
  · rw [if_neg (by simp [c1]), if_neg (by simp; omega), if_neg (by simp; omega), if_pos (by rw [decide_eq_false c6]; rfl)]; simp only [decide_eq_false c6, Bool.and_false, Bool.false_and]; rfl
  by_cases c7 : q.Line.length ≤ 40
  rotate_left
  · rw [if_neg (by simp [c1]), if_neg (by simp; omega), if_neg (by simp; omega), if_neg (nt (by rw [decide_eq_true c6]; rfl))]
    simp only [Option.bind_some]
    rw [if_pos (by simp; omega)]; simp [c7]
  rw [if_neg (by simp [c1]), if_neg (by simp; omega), if_neg (by simp; omega), if_neg (nt (by rw [decide_eq_true c6]; rfl))]
  simp only [Option.bind_some]
  rw [if_neg (by simp; omega)]
  have k1 := all_loop (step := spec_GoodQueue_L1 q) (fun i => (⟨i⟩ : spec_GoodQueue_G1)) q.Sent.length (fun i => decide ((nth q.Sent i).size ≤ 12) && (!decide (i < q.Got.length) || decide (nth q.Got i = nth q.Sent i)))
    (.inr () : Unit ⊕ Unit) (.inl ()) (fun i hi hv => ?_) (fun _ => ?_)
  rotate_left
  · unfold spec_GoodQueue_L1
    simp (disch := omega) only [decide_eq_true_eq, if_pos, guard_pos, Int.toNat_natCast, wI_id]
    by_cases h : (nth q.Sent i).size ≤ 12
    · rw [if_neg (by omega)]
      by_cases h2 : i < q.Got.length
      · rw [if_pos (by omega), sEq]
        by_cases h3 : nth q.Got i = nth q.Sent i <;> simp [h, h2, h3]
      · rw [if_neg (by omega)]; simp [h, h2]
    · rw [if_pos (by omega)]; simp [h]
  · unfold spec_GoodQueue_L1
    rw [if_neg (by simp)]
  have k2 := all_loop (step := spec_GoodQueue_L2 q) (fun i => (⟨i⟩ : spec_GoodQueue_G2)) q.Line.length (fun i => pktOk q (nth q.Line i)) (.inr () : Unit ⊕ Unit) (.inl ()) (fun i hi hv => ?_) (fun _ => ?_)
  rotate_left
  · unfold spec_GoodQueue_L2 pktOk
    simp (disch := omega) only [decide_eq_true_eq, if_pos, guard_pos, Int.toNat_natCast, wI_id, spec_l1In_eq, Option.bind_some]
    by_cases ha : (nth q.Line i).Ack = true
    · rw [if_pos ha, if_pos ha]
      by_cases h : 0 ≤ (nth q.Line i).No ∧ (nth q.Line i).No ≤ q.Got.length
      · rw [if_neg (nt (by rw [decide_eq_true h]; rfl)), sEq]
        simp only [Option.bind_some, decide_eq_true h]
        by_cases h3 : (nth q.Line i).Text = ByteArray.empty <;> simp [h3]
      · rw [if_pos (by rw [decide_eq_false h]; rfl)]
        simp only [Option.bind_some, decide_eq_false h]; rfl
    · rw [if_neg ha, if_neg ha]
      by_cases h : 0 ≤ (nth q.Line i).No ∧ (nth q.Line i).No < q.Sent.length
      · rw [if_neg (nt (by rw [decide_eq_true (by omega)]; rfl))]
        by_cases h2 : (nth q.Line i).No < q.Base + q.Window
        · rw [if_neg (by omega), sEq]
          simp only [Option.bind_some, decide_eq_true h, decide_eq_true h2]
          rw [guard_pos (by omega)]
          simp only [Option.bind_some]
          by_cases h3 : (nth q.Line i).Text = nth q.Sent (nth q.Line i).No.toNat <;> simp [h3]
        · rw [if_pos (by omega)]
          simp only [Option.bind_some, decide_eq_true h, decide_eq_false h2]; rfl
      · rw [if_pos (by rw [decide_eq_false (by omega)]; rfl)]
        simp only [Option.bind_some, decide_eq_false h, Bool.false_and]; rfl
  · unfold spec_GoodQueue_L2
    rw [if_neg (by simp)]
  rw [k1, k2, allN_nth q.Line (pktOk q)]
  have e : allN (fun i => decide ((nth q.Sent i).size ≤ 12) && (!decide (i < q.Got.length) || decide (nth q.Got i = nth q.Sent i))) q.Sent.length = (q.Sent.all (fun s => decide (s.size ≤ 12)) && decide (q.Got = q.Sent.take q.Got.length)) := by
    rw [Bool.eq_iff_iff, allN_iff, Bool.and_eq_true, ← allN_nth, allN_iff, decide_eq_true_eq]
    constructor
    · intro h
      refine ⟨fun i hi => by have := h i hi; simp at this; simp [this.1], list_ext (by simp; omega) fun j hj => ?_⟩
      have := h j (by omega)
      simp [hj] at this
      rw [this.2, nth_eq (by omega), nth_eq (by simp; omega)]
      simp
    · rintro ⟨h1, h2⟩ i hi
      simp only [Bool.and_eq_true, Bool.or_eq_true, Bool.not_eq_true', decide_eq_false_iff_not, decide_eq_true_eq]
      refine ⟨by simpa using h1 i hi, ?_⟩
      by_cases hj : i < q.Got.length
      · right
        rw [h2, nth_eq (by simp; omega), nth_eq hi]
        simp
      · left; exact hj
  rw [e]
  simp only [decide_eq_true c1, decide_eq_true c2, decide_eq_true c4, decide_eq_true c6, decide_eq_true c7, Bool.true_and, Bool.and_true]
  cases (q.Sent.all fun s => decide (s.size ≤ 12)) <;> cases decide (q.Got = q.Sent.take q.Got.length) <;> cases q.Line.all (pktOk q) <;> rfl

theorem szr_ok {s : Nat} {n : Int} (h : (s : Int) ≤ n) : ¬ szr s n < 0 := by unfold szr; rw [if_pos h]; omega
theorem szr_no {s : Nat} {n : Int} (h : ¬ (s : Int) ≤ n) : szr s n < 0 := by unfold szr; rw [if_neg h]; omega

theorem good_holds (q : QueueT) (hq : ok_Queue q) : laws_FnExactGoodQueue q = some true := by
  unfold laws_FnExactGoodQueue
  rw [laws_szQueue_eq _ _ hq (by omega) (by omega)]
  simp only [Option.bind_some]
  by_cases h : (siz_Queue q : Int) ≤ 1048576
  rotate_left
  · rw [if_pos (decide_eq_true (szr_no h))]
  rw [if_neg (by simpa using szr_ok h), laws_toQueue_eq _ (by omega)]
  have hk := lk_of_Queue hq
  simp only [Option.bind_some]
  rw [spec_GoodQueue_eq _ hk.2.1.1 hk.2.2.2.1.1 hk.2.2.2.2.1, impl_GoodQueue_eq _ hk.2.1.1 hk.2.2.2.1.1 hk.2.2.2.2.1, laws_eqQueue_eq _ _ hk]
  simp

theorem waiting_holds (q : QueueT) (hq : ok_Queue q) : laws_FnExactWaitingIn q = some true := by
  unfold laws_FnExactWaitingIn
  rw [laws_szQueue_eq _ _ hq (by omega) (by omega)]
  simp only [Option.bind_some]
  by_cases h : (siz_Queue q : Int) ≤ 1048576
  rotate_left
  · rw [if_pos (decide_eq_true (szr_no h))]
  rw [if_neg (by simpa using szr_ok h), laws_toQueue_eq _ (by omega)]
  have hk := lk_of_Queue hq
  simp only [Option.bind_some]
  unfold spec_WaitingIn impl_WaitingIn
  rw [spec_GoodQueue_eq _ hk.2.1.1 hk.2.2.2.1.1 hk.2.2.2.2.1, impl_GoodQueue_eq _ hk.2.1.1 hk.2.2.2.1.1 hk.2.2.2.2.1, laws_eqQueue_eq _ _ hk]
  simp only [Option.bind_some]
  cases goodQ q <;> simp
end Go.TL
namespace Go.TL

def cur (c : l1CurT) (K : Int) : Prop := 0 ≤ c.at_ ∧ c.at_ ≤ K ∧ ∀ y ∈ c.code, 0 ≤ y ∧ y ≤ 255
theorem cur.up {c : l1CurT} {K L : Int} (h : cur c K) (hl : K ≤ L) : cur c L := ⟨h.1, Int.le_trans h.2.1 hl, h.2.2⟩

theorem bvAnd_255 (a : Int) : 0 ≤ bvAnd 64 a 255 ∧ bvAnd 64 a 255 ≤ 255 := by
  unfold bvAnd
  rw [BitVec.toNat_and]
  have : (BitVec.ofInt 64 255).toNat = 255 := by decide
  rw [this]
  have := Nat.and_le_right (n := (BitVec.ofInt 64 a).toNat) (m := 255)
  omega

theorem next_ok {c : l1CurT} {K : Int} (h : cur c K) (hK : K ≤ 4611686018427387904) : ∃ x c', spec_l1Cur_next_o c = some (x, c') ∧ 0 ≤ x ∧ x ≤ 255 ∧ cur c' (K + 1) := by
  obtain ⟨h1, h2, h3⟩ := h
  unfold spec_l1Cur_next_o
  have hw : wI (c.at_ + 1) = c.at_ + 1 := wI_id (by omega)
  have hb : ∀ s : Int, wI (wU (bvAnd 64 s 255)) = bvAnd 64 s 255 := fun s => by
    have := bvAnd_255 s
    rw [wU_id (by omega), wI_id (by omega)]
  have hcur : ∀ s : Int, cur ⟨c.code, wI (c.at_ + 1), s⟩ (K + 1) := fun s => by
    rw [hw]; exact ⟨by simp only; omega, by simp only; omega, h3⟩
  by_cases ha : c.at_ < ((c.code.length : Nat) : Int)
  · rw [if_pos (decide_eq_true ha), guard_pos ⟨h1, ha⟩]
    simp only [Option.bind_some]
    have hm : nth c.code c.at_.toNat ∈ c.code := nth_mem (by omega)
    have hy := h3 _ hm
    by_cases hc : wI (c.at_ + 1) ≤ ((c.code.length : Nat) : Int)
    · rw [if_pos (decide_eq_true hc)]
      exact ⟨_, _, rfl, by rw [wI_id (by omega)]; omega, by rw [wI_id (by omega)]; omega, hcur _⟩
    · rw [if_neg (by simpa using hc)]
      exact ⟨_, _, rfl, by rw [hb]; exact (bvAnd_255 _).1, by rw [hb]; exact (bvAnd_255 _).2, hcur _⟩
  · rw [if_neg (by simpa using ha)]
    simp only [Option.bind_some]
    by_cases hc : wI (c.at_ + 1) ≤ ((c.code.length : Nat) : Int)
    · rw [if_pos (decide_eq_true hc)]
      exact ⟨_, _, rfl, by omega, by omega, hcur _⟩
    · rw [if_neg (by simpa using hc)]
      exact ⟨_, _, rfl, by rw [hb]; exact (bvAnd_255 _).1, by rw [hb]; exact (bvAnd_255 _).2, hcur _⟩

theorem pick_ok {c : l1CurT} {K : Int} (n : Int) (h : cur c K) (hK : K ≤ 4611686018427387000) (hn : n ≤ 100000) :
    ∃ x c', spec_l1Cur_pick_o c n = some (x, c') ∧ 0 ≤ x ∧ (n ≤ 1 → x = 0) ∧ (1 ≤ n → x < n) ∧ cur c' (K + 2) := by
  unfold spec_l1Cur_pick_o
  by_cases h1 : n ≤ 1
  · rw [if_pos (decide_eq_true h1)]
    exact ⟨0, c, rfl, by omega, fun _ => rfl, fun _ => by omega, h.up (by omega)⟩
  · rw [if_neg (by simpa using h1)]
    obtain ⟨x, c', e, x0, x1, hc⟩ := next_ok h (by omega)
    rw [e]
    simp only [Option.bind_some]
    by_cases h2 : n > 200
    · rw [if_pos (decide_eq_true h2)]
      obtain ⟨y, c2, e2, y0, y1, hc2⟩ := next_ok hc (by omega)
      rw [e2]
      simp only [Option.bind_some]
      rw [guard_pos (by omega), wI_id (n := x * 256) (by omega), wI_id (by omega)]
      refine ⟨_, _, rfl, Int.tmod_nonneg _ (by omega), fun _ => by omega, fun _ => Int.tmod_lt_of_pos _ (by omega), hc2.up (by omega)⟩
    · rw [if_neg (by simpa using h2), guard_pos (by omega)]
      exact ⟨_, _, rfl, Int.tmod_nonneg _ (by omega), fun _ => by omega, fun _ => Int.tmod_lt_of_pos _ (by omega), hc.up (by omega)⟩

theorem one_ok {c : l1CurT} {K : Int} (n : Int) (h : cur c K) (hK : K ≤ 4611686018427387000) (hn : n ≤ 100000) :
    ∃ x c', spec_l1Cur_one_o c n = some (x, c') ∧ cur c' (K + 2) := by
  unfold spec_l1Cur_one_o
  obtain ⟨x, c', e, _, _, _, hc⟩ := pick_ok n h hK hn
  rw [e]
  exact ⟨_, _, rfl, hc⟩
theorem cur0 {code : List Int} (h : ∀ y ∈ code, 0 ≤ y ∧ y ≤ 255) : cur ⟨code, 0, 0⟩ 0 := ⟨by simp, by simp, h⟩
end Go.TL
namespace Go.TL
theorem pick_b {β : Type} {f : Int × l1CurT → Option β} {Q : β → Prop} {c : l1CurT} {K n : Int} (h : cur c K) (hK : K ≤ 4611686018427387000) (hn : n ≤ 100000)
    (hf : ∀ x c', 0 ≤ x → (n ≤ 1 → x = 0) → (1 ≤ n → x < n) → cur c' (K + 2) → okO Q (f (x, c'))) : okO Q ((spec_l1Cur_pick_o c n).bind f) := by
  obtain ⟨x, c', e, h1, h2, h3, h4⟩ := pick_ok n h hK hn
  rw [e]; exact hf x c' h1 h2 h3 h4
theorem one_b {β : Type} {f : Bool × l1CurT → Option β} {Q : β → Prop} {c : l1CurT} {K n : Int} (h : cur c K) (hK : K ≤ 4611686018427387000) (hn : n ≤ 100000)
    (hf : ∀ x c', cur c' (K + 2) → okO Q (f (x, c'))) : okO Q ((spec_l1Cur_one_o c n).bind f) := by
  obtain ⟨x, c', e, h4⟩ := one_ok n h hK hn
  rw [e]; exact hf x c' h4
end Go.TL
namespace Go.TL

def goodB (b : BreakerT) : Bool :=
  decide (1 ≤ b.Limit ∧ b.Limit ≤ 20) && decide (1 ≤ b.Cool ∧ b.Cool ≤ 10000) && decide (0 ≤ b.State ∧ b.State ≤ 2) && decide (0 ≤ b.Opened ∧ b.Opened ≤ 1000000) &&
    (if b.State = 0 then decide (0 ≤ b.Fails ∧ b.Fails < b.Limit) && decide (b.Opened = 0) else decide (b.Fails = b.Limit))
theorem goodB_iff {b : BreakerT} : goodB b = true ↔ (1 ≤ b.Limit ∧ b.Limit ≤ 20) ∧ (1 ≤ b.Cool ∧ b.Cool ≤ 10000) ∧ (0 ≤ b.State ∧ b.State ≤ 2) ∧ (0 ≤ b.Opened ∧ b.Opened ≤ 1000000) ∧
    ((b.State = 0 → 0 ≤ b.Fails ∧ b.Fails < b.Limit ∧ b.Opened = 0) ∧ (b.State ≠ 0 → b.Fails = b.Limit)) := by
  unfold goodB
  simp only [Bool.and_eq_true, decide_eq_true_eq]
  by_cases h : b.State = 0
  · simp [h, and_assoc]
  · simp [h, and_assoc]

theorem impl_isTime_eq (n : Int) : impl_isTime n = some (decide (0 ≤ n ∧ n ≤ 1000000)) := by
  unfold impl_isTime; rw [impl_in_eq]; rfl

theorem impl_GoodBreaker_eq (b : BreakerT) : impl_GoodBreaker b = some (goodB b) := by
  unfold impl_GoodBreaker goodB
  simp only [impl_in_eq, impl_isTime_eq, Option.bind_some]
  by_cases c1 : 1 ≤ b.Limit ∧ b.Limit ≤ 20
  rotate_left
  · simp [c1]
  by_cases c2 : 1 ≤ b.Cool ∧ b.Cool ≤ 10000
  rotate_left
  · simp [c1, c2]
  by_cases c3 : 0 ≤ b.State ∧ b.State ≤ 2
  rotate_left
  · simp [c1, c2, c3]
  by_cases c4 : 0 ≤ b.Fails ∧ b.Fails ≤ b.Limit
  rotate_left
  · have h0 : (if b.State = 0 then decide (0 ≤ b.Fails ∧ b.Fails < b.Limit) && decide (b.Opened = 0) else decide (b.Fails = b.Limit)) = false := by
      by_cases h : b.State = 0
      · rw [if_pos h, decide_eq_false (by omega)]; rfl
      · rw [if_neg h, decide_eq_false (by omega)]
    rw [h0, Bool.and_false]
    simp [c1, c2, c3, c4]
  by_cases c5 : 0 ≤ b.Opened ∧ b.Opened ≤ 1000000
  rotate_left
  · simp [c1, c2, c3, c4, c5]
  simp only [decide_eq_true c1, decide_eq_true c2, decide_eq_true c3, decide_eq_true c4, decide_eq_true c5, Bool.true_and, Bool.not_true, Bool.false_eq_true, if_false, Option.bind_some]
  by_cases h : b.State = 0
  · by_cases h2 : b.Fails < b.Limit
    · simp [h, h2, c4.1]; rfl
    · simp [h, h2]
  · simp [h]; rfl

theorem spec_GoodBreaker_eq (b : BreakerT) : spec_GoodBreaker b = some (goodB b) := by
  unfold spec_GoodBreaker goodB
  simp only [spec_l1In_eq, Option.bind_some]
  by_cases c1 : 1 ≤ b.Limit ∧ b.Limit ≤ 20
  rotate_left
  · simp [c1]
  by_cases c2 : 1 ≤ b.Cool ∧ b.Cool ≤ 10000
  rotate_left
  · simp [c1, c2]
  by_cases c3 : 0 ≤ b.State ∧ b.State ≤ 2
  rotate_left
  · simp [c1, c2, c3]
  by_cases c5 : 0 ≤ b.Opened ∧ b.Opened ≤ 1000000
  rotate_left
  · simp [c1, c2, c3, c5]
  rw [wI_id (by omega)]
  simp only [decide_eq_true c1, decide_eq_true c2, decide_eq_true c3, decide_eq_true c5, Bool.true_and, Bool.not_true, Bool.false_eq_true, if_false, Option.bind_some]
  by_cases h : b.State = 0
  · by_cases h2 : 0 ≤ b.Fails ∧ b.Fails ≤ b.Limit - 1
    · rw [decide_eq_true h2, decide_eq_true (show 0 ≤ b.Fails ∧ b.Fails < b.Limit by omega)]; simp [h]; rfl
    · rw [decide_eq_false h2, decide_eq_false (show ¬ (0 ≤ b.Fails ∧ b.Fails < b.Limit) by omega)]; simp [h]
  · simp [h]; rfl

def callB (b : BreakerT) (c : CallT) : BreakerT × Bool :=
  if b.State = 1 ∧ c.Now < b.Opened + b.Cool then (b, false)
  else if c.Fine = true then (⟨b.Limit, b.Cool, 0, 0, 0⟩, true)
  else if b.State ≠ 0 then (⟨b.Limit, b.Cool, 1, b.Fails, c.Now⟩, true)
  else if b.Fails + 1 = b.Limit then (⟨b.Limit, b.Cool, 1, b.Fails + 1, c.Now⟩, true)
  else (⟨b.Limit, b.Cool, b.State, b.Fails + 1, b.Opened⟩, true)

theorem spec_l10Call_eq (b : BreakerT) (c : CallT) (hb : goodB b = true) : spec_l10Call b c = some (callB b c) := by
  rw [goodB_iff] at hb
  obtain ⟨h1, h2, h3, h4, h5, h6⟩ := hb
  unfold spec_l10Call callB
  have hf : b.State = 0 → wI (b.Fails + 1) = b.Fails + 1 := fun h => wI_id (by have := h5 h; omega)
  rw [wI_id (n := b.Opened + b.Cool) (by omega)]
  by_cases c1 : b.State = 1
  · by_cases c2 : c.Now < b.Opened + b.Cool
    · simp [c1, c2]
    · cases hfine : c.Fine <;> simp [c1, c2]
  · by_cases c0 : b.State = 0
    · rw [hf c0]
      cases hfine : c.Fine <;> by_cases c3 : b.Fails + 1 = b.Limit <;> simp [c0, c3]
    · cases hfine : c.Fine <;> simp [c1, c0]

theorem impl_Breaker_call_eq (b : BreakerT) (c : CallT) (hb : goodB b = true) : impl_Breaker_call_o b c = some ((callB b c).2, (callB b c).1) := by
  rw [goodB_iff] at hb
  obtain ⟨h1, h2, h3, h4, h5, h6⟩ := hb
  unfold impl_Breaker_call_o impl_Breaker_allows_r callB
  have hf : b.State = 0 → wI (b.Fails + 1) = b.Fails + 1 := fun h => wI_id (by have := h5 h; omega)
  rw [wI_id (n := b.Opened + b.Cool) (by omega)]
  by_cases c1 : b.State = 1
  · by_cases c2 : c.Now < b.Opened + b.Cool
    · simp [c1, c2]
    · cases hfine : c.Fine <;> simp [c1, c2]
      all_goals (try omega)
  · by_cases c0 : b.State = 0
    · rw [hf c0]
      cases hfine : c.Fine <;> by_cases c3 : b.Fails + 1 = b.Limit <;> simp [c0, c3]
    · cases hfine : c.Fine <;> simp [c1, c0]

theorem callB_good {b : BreakerT} {c : CallT} (hb : goodB b = true) (hc : 0 ≤ c.Now ∧ c.Now ≤ 1000000) : goodB (callB b c).1 = true := by
  have hb' := hb
  rw [goodB_iff] at hb
  obtain ⟨h1, h2, h3, h4, h5, h6⟩ := hb
  unfold callB
  split
  · exact hb'
  · split
    · rw [goodB_iff]; simp; omega
    · split
      · rename_i h
        have := h6 h
        rw [goodB_iff]; simp only; omega
      · rename_i h
        have h0 : b.State = 0 := by omega
        have := h5 h0
        split
        · rw [goodB_iff]; simp only; omega
        · rw [goodB_iff]; simp only; omega

def stB (b : BreakerT) (l : List CallT) : Nat → BreakerT
  | 0 => b
  | i + 1 => (callB (stB b l i) (nth l i)).1
def outB (b : BreakerT) (l : List CallT) (i : Nat) : Bool := (callB (stB b l i) (nth l i)).2
def timeP (l : List CallT) (i : Nat) : Bool := decide (0 ≤ (nth l i).Now ∧ (nth l i).Now ≤ 1000000) && (decide (i = 0) || decide ((nth l (i - 1)).Now ≤ (nth l i).Now))
def newB (lim cool : Int) : BreakerT := ⟨lim, cool, 0, 0, 0⟩
def okPlay (lim cool : Int) (l : List CallT) : Bool := decide (1 ≤ lim ∧ lim ≤ 20) && decide (1 ≤ cool ∧ cool ≤ 10000) && decide (l.length ≤ 120) && allN (timeP l) l.length
def playB (lim cool : Int) (l : List CallT) : BreakerT × List Bool × Bool :=
  if okPlay lim cool l = true then (stB (newB lim cool) l l.length, (List.range l.length).map (outB (newB lim cool) l), true) else (⟨0, 0, 0, 0, 0⟩, [], false)

theorem stB_good {b : BreakerT} {l : List CallT} (hb : goodB b = true) : ∀ n, (∀ j, j < n → timeP l j = true) → goodB (stB b l n) = true
  | 0, _ => hb
  | n + 1, h => callB_good (stB_good hb n fun j hj => h j (by omega)) (by
      have := h n (by omega)
      unfold timeP at this
      simp only [Bool.and_eq_true, decide_eq_true_eq] at this
      exact this.1)
theorem newB_good {lim cool : Int} (h1 : 1 ≤ lim ∧ lim ≤ 20) (h2 : 1 ≤ cool ∧ cool ≤ 10000) : goodB (newB lim cool) = true := by
  rw [goodB_iff]; unfold newB; simp; omega

theorem impl_NewBreaker_eq (lim cool : Int) : impl_NewBreaker lim cool = some (if (1 ≤ lim ∧ lim ≤ 20) ∧ 1 ≤ cool ∧ cool ≤ 10000 then (newB lim cool, true) else (⟨0, 0, 0, 0, 0⟩, false)) := by
  unfold impl_NewBreaker
  rw [impl_GoodBreaker_eq]
  simp only [Option.bind_some]
  by_cases h : (1 ≤ lim ∧ lim ≤ 20) ∧ 1 ≤ cool ∧ cool ≤ 10000
  · have := newB_good h.1 h.2
    unfold newB at this
    rw [this, if_pos h]; rfl
  · have : goodB ⟨lim, cool, 0, 0, 0⟩ = false := by
      rw [← Bool.not_eq_true, goodB_iff]; intro hh; exact h ⟨hh.1, hh.2.1⟩
    rw [this, if_neg h]; rfl
theorem spec_NewBreaker_eq (lim cool : Int) : spec_NewBreaker lim cool = some (if (1 ≤ lim ∧ lim ≤ 20) ∧ 1 ≤ cool ∧ cool ≤ 10000 then (newB lim cool, true) else (⟨0, 0, 0, 0, 0⟩, false)) := by
  unfold spec_NewBreaker
  simp only [spec_l1In_eq, Option.bind_some]
  by_cases h1 : 1 ≤ lim ∧ lim ≤ 20
  · by_cases h2 : 1 ≤ cool ∧ cool ≤ 10000
    · simp [h1, h2, newB]
    · simp [h1, h2]
  · simp [h1]

theorem range_snoc {α : Type} (f : Nat → α) (n : Nat) : (List.range n).map f ++ [f n] = (List.range (n + 1)).map f := by rw [List.range_succ, List.map_append]; rfl

theorem impl_PlayBreaker_eq (lim cool : Int) (l : List CallT) : impl_PlayBreaker lim cool l = some (playB lim cool l) := by
  unfold impl_PlayBreaker playB okPlay
  rw [impl_NewBreaker_eq]
  simp only [Option.bind_some]
  by_cases h1 : (1 ≤ lim ∧ lim ≤ 20) ∧ 1 ≤ cool ∧ cool ≤ 10000
  rotate_left
  · rw [if_neg h1]
    have : (decide (1 ≤ lim ∧ lim ≤ 20) && decide (1 ≤ cool ∧ cool ≤ 10000)) = false := by
      rw [← Bool.not_eq_true, Bool.and_eq_true, decide_eq_true_eq, decide_eq_true_eq]; exact h1
    rw [this]; simp
  rw [if_pos h1]
  have hb := newB_good h1.1 h1.2
  by_cases h2 : l.length ≤ 120
  rotate_left
  · rw [decide_eq_true (show ((l.length : Nat) : Int) > 120 by omega), decide_eq_false h2]
    simp
  rw [decide_eq_false (show ¬ ((l.length : Nat) : Int) > 120 by omega), decide_eq_true h2, decide_eq_true h1.1, decide_eq_true h1.2]
  simp only [Bool.not_true, Bool.false_eq_true, if_false, Option.bind_some, Bool.true_and]
  have key := all_loop (step := impl_PlayBreaker_L1 l) (fun i => (⟨i, (stB (newB lim cool) l i.toNat).Limit, (stB (newB lim cool) l i.toNat).Cool, (stB (newB lim cool) l i.toNat).State, (stB (newB lim cool) l i.toNat).Fails, (stB (newB lim cool) l i.toNat).Opened, (List.range i.toNat).map (outB (newB lim cool) l)⟩ : impl_PlayBreaker_G1)) l.length (timeP l)
    (.inr ⟨(stB (newB lim cool) l l.length).Limit, (stB (newB lim cool) l l.length).Cool, (stB (newB lim cool) l l.length).State, (stB (newB lim cool) l l.length).Fails, (stB (newB lim cool) l l.length).Opened, (List.range l.length).map (outB (newB lim cool) l)⟩ : Unit ⊕ impl_PlayBreaker_P1_1) (.inl ()) (fun i hi hv => ?_) (fun _ => ?_)
  · have e0 : (⟨0, (newB lim cool).Limit, (newB lim cool).Cool, (newB lim cool).State, (newB lim cool).Fails, (newB lim cool).Opened, []⟩ : impl_PlayBreaker_G1) = ⟨0, (stB (newB lim cool) l (0 : Int).toNat).Limit, (stB (newB lim cool) l (0 : Int).toNat).Cool, (stB (newB lim cool) l (0 : Int).toNat).State, (stB (newB lim cool) l (0 : Int).toNat).Fails, (stB (newB lim cool) l (0 : Int).toNat).Opened, (List.range (0 : Int).toNat).map (outB (newB lim cool) l)⟩ := rfl
    rw [e0, key]
    cases allN (timeP l) l.length <;> rfl
  · unfold impl_PlayBreaker_L1
    have hg := stB_good hb i hv
    have hcall := impl_Breaker_call_eq (stB (newB lim cool) l i) (nth l i) hg
    simp (disch := omega) only [decide_eq_true_eq, if_pos, guard_pos, Int.toNat_natCast, wI_id, impl_isTime_eq, Option.bind_some, List.length_map, List.length_range]
    rw [hcall]
    simp only [Option.bind_some]
    unfold timeP
    by_cases ht : 0 ≤ (nth l i).Now ∧ (nth l i).Now ≤ 1000000
    rotate_left
    · simp [ht]
    by_cases hi0 : i = 0
    · subst hi0
      simp [ht, stB, outB]
    · have e1 : ((i : Int) - 1).toNat = i - 1 := by omega
      have e2 : ((i : Int) + 1).toNat = i + 1 := by omega
      by_cases hn : (nth l (i - 1)).Now ≤ (nth l i).Now
      · have h0 : 0 < i := by omega
        have hlt : ¬ (nth l i).Now < (nth l (i - 1)).Now := by omega
        simp [ht, hi0, hn, hlt, h0, e1, e2, stB, outB, List.range_succ]
      · have h0 : 0 < i := by omega
        have hlt : (nth l i).Now < (nth l (i - 1)).Now := by omega
        simp [ht, hi0, hn, hlt, h0, e1]
  · unfold impl_PlayBreaker_L1
    rw [if_neg (by simp)]
    simp only [Int.toNat_natCast]

theorem spec_PlayBreaker_eq (lim cool : Int) (l : List CallT) : spec_PlayBreaker lim cool l = some (playB lim cool l) := by
  unfold spec_PlayBreaker playB okPlay
  rw [spec_NewBreaker_eq]
  simp only [Option.bind_some]
  by_cases h1 : (1 ≤ lim ∧ lim ≤ 20) ∧ 1 ≤ cool ∧ cool ≤ 10000
  rotate_left
  · rw [if_neg h1]
    have : (decide (1 ≤ lim ∧ lim ≤ 20) && decide (1 ≤ cool ∧ cool ≤ 10000)) = false := by
      rw [← Bool.not_eq_true, Bool.and_eq_true, decide_eq_true_eq, decide_eq_true_eq]; exact h1
    rw [this]; simp
  rw [if_pos h1]
  have hb := newB_good h1.1 h1.2
  by_cases h2 : l.length ≤ 120
  rotate_left
  · rw [decide_eq_true (show ((l.length : Nat) : Int) > 120 by omega), decide_eq_false h2]
    simp
  rw [decide_eq_false (show ¬ ((l.length : Nat) : Int) > 120 by omega), decide_eq_true h2, decide_eq_true h1.1, decide_eq_true h1.2]
  simp only [Bool.not_true, Bool.false_eq_true, if_false, Option.bind_some, Bool.true_and]
  have key := all_loop (step := spec_PlayBreaker_L1 l) (fun i => (⟨i, (stB (newB lim cool) l i.toNat).Limit, (stB (newB lim cool) l i.toNat).Cool, (stB (newB lim cool) l i.toNat).State, (stB (newB lim cool) l i.toNat).Fails, (stB (newB lim cool) l i.toNat).Opened, (List.range i.toNat).map (outB (newB lim cool) l)⟩ : spec_PlayBreaker_G1)) l.length (timeP l)
    (.inr ⟨(stB (newB lim cool) l l.length).Limit, (stB (newB lim cool) l l.length).Cool, (stB (newB lim cool) l l.length).State, (stB (newB lim cool) l l.length).Fails, (stB (newB lim cool) l l.length).Opened, (List.range l.length).map (outB (newB lim cool) l)⟩ : Unit ⊕ spec_PlayBreaker_P1_1) (.inl ()) (fun i hi hv => ?_) (fun _ => ?_)
  · have e0 : (⟨0, (newB lim cool).Limit, (newB lim cool).Cool, (newB lim cool).State, (newB lim cool).Fails, (newB lim cool).Opened, []⟩ : spec_PlayBreaker_G1) = ⟨0, (stB (newB lim cool) l (0 : Int).toNat).Limit, (stB (newB lim cool) l (0 : Int).toNat).Cool, (stB (newB lim cool) l (0 : Int).toNat).State, (stB (newB lim cool) l (0 : Int).toNat).Fails, (stB (newB lim cool) l (0 : Int).toNat).Opened, (List.range (0 : Int).toNat).map (outB (newB lim cool) l)⟩ := rfl
    rw [e0, key]
    cases allN (timeP l) l.length <;> rfl
  · unfold spec_PlayBreaker_L1
    have hg := stB_good hb i hv
    have hcall := spec_l10Call_eq (stB (newB lim cool) l i) (nth l i) hg
    simp (disch := omega) only [decide_eq_true_eq, if_pos, guard_pos, Int.toNat_natCast, wI_id, spec_l1In_eq, Option.bind_some, List.length_map, List.length_range]
    rw [hcall]
    simp only [Option.bind_some]
    unfold timeP
    by_cases ht : 0 ≤ (nth l i).Now ∧ (nth l i).Now ≤ 1000000
    rotate_left
    · simp [ht]
    by_cases hi0 : i = 0
    · subst hi0
      simp [ht, stB, outB]
    · have e1 : ((i : Int) - 1).toNat = i - 1 := by omega
      have e2 : ((i : Int) + 1).toNat = i + 1 := by omega
      by_cases hn : (nth l (i - 1)).Now ≤ (nth l i).Now
      · have h0 : 0 < i := by omega
        have hlt : ¬ (nth l i).Now < (nth l (i - 1)).Now := by omega
        simp [ht, hi0, hn, hlt, h0, e1, e2, stB, outB, List.range_succ]
      · have h0 : 0 < i := by omega
        have hlt : (nth l i).Now < (nth l (i - 1)).Now := by omega
        simp [ht, hi0, hn, hlt, h0, e1]
  · unfold spec_PlayBreaker_L1
    rw [if_neg (by simp)]
    simp only [Int.toNat_natCast]

/-! ### What a breaker promises -/

theorem callB_const (b : BreakerT) (c : CallT) : (callB b c).1.Limit = b.Limit ∧ (callB b c).1.Cool = b.Cool := by
  unfold callB; (repeat' split) <;> exact ⟨rfl, rfl⟩
theorem stB_const (b : BreakerT) (l : List CallT) : ∀ n, (stB b l n).Limit = b.Limit ∧ (stB b l n).Cool = b.Cool
  | 0 => ⟨rfl, rfl⟩
  | n + 1 => by
    have := callB_const (stB b l n) (nth l n)
    have h := stB_const b l n
    exact ⟨this.1.trans h.1, this.2.trans h.2⟩
theorem callB_half {b : BreakerT} {c : CallT} (h : b.State = 0 ∨ b.State = 1) : (callB b c).1.State = 0 ∨ (callB b c).1.State = 1 := by
  unfold callB; (repeat' split) <;> simp_all
theorem stB_half {b : BreakerT} (l : List CallT) (h : b.State = 0 ∨ b.State = 1) : ∀ n, (stB b l n).State = 0 ∨ (stB b l n).State = 1
  | 0 => h
  | n + 1 => callB_half (stB_half l h n)
def openB (b : BreakerT) : Int := if b.State = 1 then b.Opened else -1

theorem law_step {b : BreakerT} {c : CallT} {lim cool : Int} {i : Nat} (hg : goodB b = true) (hh : b.State = 0 ∨ b.State = 1) (hc : b.Limit = (newB lim cool).Limit ∧ b.Cool = (newB lim cool).Cool) :
    (((if decide (openB b < 0) = true then some { t18 := true }
        else some { t18 := decide (c.Now ≥ wI (openB b + cool)) }) : Option laws_FnBreaker_J14014).bind fun p187 =>
      if (!(callB b c).snd == p187.t18) = true then some (Sum.inr (Sum.inl ()))
      else
        if (!p187.t18) = true then some (Sum.inl { t14 := b.Fails, t15 := openB b, t74 := (i : Int) + 1 })
        else
          if c.Fine = true then some (Sum.inl { t14 := 0, t15 := -1, t74 := (i : Int) + 1 })
          else
            ((if decide (openB b ≥ 0) = true then some { t107 := true }
                else some { t107 := wI (b.Fails + 1) == lim }) : Option laws_FnBreaker_J14022).bind
              fun p188 =>
              if p188.t107 = true then some (Sum.inl { t14 := lim, t15 := c.Now, t74 := (i : Int) + 1 })
              else some (Sum.inl { t14 := wI (b.Fails + 1), t15 := openB b, t74 := (i : Int) + 1 })) =
    some (Sum.inl { t14 := (callB b c).fst.Fails, t15 := openB (callB b c).fst, t74 := ((i + 1 : Nat) : Int) } : laws_FnBreaker_G1 ⊕ (Unit ⊕ laws_FnBreaker_P1_1)) := by
  rw [goodB_iff] at hg
  obtain ⟨g1, g2, g3, g4, g5, g6⟩ := hg
  obtain ⟨hc1, hc2⟩ := hc
  have hl : b.Limit = lim := hc1
  have hcl : b.Cool = cool := hc2
  have hw : wI (b.Opened + cool) = b.Opened + cool := wI_id (by omega)
  rcases hh with h0 | h0
  · have g5' := g5 h0
    have hw2 : wI (b.Fails + 1) = b.Fails + 1 := wI_id (by omega)
    have hopen : openB b = -1 := by unfold openB; rw [if_neg (by omega)]
    rw [hopen]
    unfold callB openB
    have hw3 : wI lim = lim := wI_id (by omega)
    cases hf : c.Fine <;> by_cases h7 : b.Fails + 1 = lim <;> simp [h0, h7, hw2, hw3, hl]
  · have g6' := g6 (by omega)
    have hopen : openB b = b.Opened := by unfold openB; rw [if_pos h0]
    have hneg : ¬ b.Opened < 0 := by omega
    rw [hopen, hw]
    unfold callB openB
    by_cases h8 : c.Now < b.Opened + b.Cool
    · have h8' : ¬ c.Now ≥ b.Opened + cool := by omega
      simp [h0, h8, h8', hneg]
    · have h8' : c.Now ≥ b.Opened + cool := by omega
      cases hf : c.Fine <;> simp [h0, h8, h8', hneg, g4.1]
      all_goals omega

theorem law_loop (lim cool : Int) (l : List CallT) (h : okPlay lim cool l = true) : loopF (laws_FnBreaker_L1 (lim, cool, l) (playB lim cool l)) ⟨0, -1, 0⟩ = some (.inr ⟨openB (stB (newB lim cool) l l.length)⟩) := by
  have hp : playB lim cool l = (stB (newB lim cool) l l.length, (List.range l.length).map (outB (newB lim cool) l), true) := by unfold playB; rw [if_pos h]
  rw [hp]
  unfold okPlay at h
  simp only [Bool.and_eq_true, decide_eq_true_eq] at h
  obtain ⟨⟨⟨h1, h2⟩, h3⟩, h4⟩ := h
  rw [allN_iff] at h4
  have hb := newB_good h1 h2
  have key := all_loop (step := laws_FnBreaker_L1 (lim, cool, l) (stB (newB lim cool) l l.length, (List.range l.length).map (outB (newB lim cool) l), true))
    (fun i => (⟨(stB (newB lim cool) l i.toNat).Fails, openB (stB (newB lim cool) l i.toNat), i⟩ : laws_FnBreaker_G1)) l.length (fun _ => true) (.inr ⟨openB (stB (newB lim cool) l l.length)⟩ : Unit ⊕ laws_FnBreaker_P1_1) (.inl ()) (fun i hi _ => ?_) (fun _ => ?_)
  · have e0 : (⟨0, -1, 0⟩ : laws_FnBreaker_G1) = ⟨(stB (newB lim cool) l (0 : Int).toNat).Fails, openB (stB (newB lim cool) l (0 : Int).toNat), 0⟩ := rfl
    rw [e0, key]
    rw [if_pos (allN_iff.2 fun _ _ => rfl)]
  · have hg := stB_good hb i fun j hj => h4 j (by omega)
    have hh := stB_half (b := newB lim cool) l (.inl rfl) i
    have hc := stB_const (newB lim cool) l i
    have ho : nth ((List.range l.length).map (outB (newB lim cool) l)) i = outB (newB lim cool) l i := by
      rw [nth_eq (by simpa using hi)]; simp
    have e2 : ((i : Int) + 1).toNat = i + 1 := by omega
    have hs : stB (newB lim cool) l (i + 1) = (callB (stB (newB lim cool) l i) (nth l i)).1 := rfl
    have hout : outB (newB lim cool) l i = (callB (stB (newB lim cool) l i) (nth l i)).2 := rfl
    unfold laws_FnBreaker_L1
    simp only [Int.toNat_natCast, ho, hout]
    have hgd : (0 : Int) ≤ i ∧ (i : Int) < ((l.length : Nat) : Int) := by omega
    have hwi : wI ((i : Int) + 1) = i + 1 := wI_id (by omega)
    rw [if_pos (decide_eq_true hgd.2)]
    simp only [List.length_map, List.length_range, guard_pos hgd, hwi, if_true]
    have e3 : (((i + 1 : Nat) : Int)).toNat = i + 1 := by omega
    simp only [e3, hs]
    exact law_step hg hh hc
  · unfold laws_FnBreaker_L1
    rw [if_neg (by simp)]
    simp only [Int.toNat_natCast]

theorem impl_CallBreaker_eq (b : BreakerT) (c : CallT) : impl_CallBreaker b c = some (if goodB b = true ∧ 0 ≤ c.Now ∧ c.Now ≤ 1000000 then ((callB b c).1, (callB b c).2, true) else (⟨0, 0, 0, 0, 0⟩, false, false)) := by
  unfold impl_CallBreaker
  rw [impl_GoodBreaker_eq, impl_isTime_eq]
  simp only [Option.bind_some]
  by_cases h : goodB b = true
  · rw [impl_Breaker_call_eq b c h]
    by_cases h2 : 0 ≤ c.Now ∧ c.Now ≤ 1000000 <;> simp [h, h2]
  · simp [h]
theorem spec_CallBreaker_eq (b : BreakerT) (c : CallT) : spec_CallBreaker b c = some (if goodB b = true ∧ 0 ≤ c.Now ∧ c.Now ≤ 1000000 then ((callB b c).1, (callB b c).2, true) else (⟨0, 0, 0, 0, 0⟩, false, false)) := by
  unfold spec_CallBreaker
  rw [spec_GoodBreaker_eq, spec_l1In_eq]
  simp only [Option.bind_some]
  by_cases h : goodB b = true
  · rw [spec_l10Call_eq b c h]
    by_cases h2 : 0 ≤ c.Now ∧ c.Now ≤ 1000000 <;> simp [h, h2]
  · simp [h]
theorem impl_AllowsAt_eq (b : BreakerT) (n : Int) : impl_AllowsAt b n = some (if goodB b = true ∧ 0 ≤ n ∧ n ≤ 1000000 then (!decide (b.State = 1 ∧ n < b.Opened + b.Cool), true) else (false, false)) := by
  unfold impl_AllowsAt impl_Breaker_allows_r
  rw [impl_GoodBreaker_eq, impl_isTime_eq]
  simp only [Option.bind_some]
  by_cases h : goodB b = true
  · have hg := goodB_iff.1 h
    rw [wI_id (n := b.Opened + b.Cool) (by omega)]
    by_cases h2 : 0 ≤ n ∧ n ≤ 1000000
    · by_cases h3 : b.State = 1
      · by_cases h4 : n < b.Opened + b.Cool
        · simp [h, h2, h3, h4]
        · have : b.Opened + b.Cool ≤ n := by omega
          simp [h, h2, h3, h4, this]
      · simp [h, h2, h3]
    · simp [h, h2]
  · simp [h]
theorem callB_allows (b : BreakerT) (c : CallT) : (callB b c).2 = !decide (b.State = 1 ∧ c.Now < b.Opened + b.Cool) := by
  unfold callB
  by_cases h : b.State = 1 ∧ c.Now < b.Opened + b.Cool
  · rw [if_pos h, decide_eq_true h]; rfl
  · rw [if_neg h, decide_eq_false h]; (repeat' split) <;> rfl
theorem callB_not {b : BreakerT} {c : CallT} (h : (callB b c).2 = false) : (callB b c).1 = b := by
  unfold callB at h ⊢
  (repeat' split) <;> simp_all

theorem sameBools_eq (a b : List Bool) (ha1 : a.length ≤ 9223372036854775807) : laws_sameBools a b = some (decide (a = b)) := by
  unfold laws_sameBools
  by_cases hl : a.length = b.length
  · rw [if_neg (by simp [hl])]
    have key := eq_loop (step := laws_sameBools_L1 a b) (fun i => (⟨i⟩ : laws_sameBools_G1)) a b hl (fun i hi => ?_) ?_
    · rw [key]; by_cases h : a = b <;> simp [h]
    · unfold laws_sameBools_L1
      simp (disch := omega) only [decide_eq_true_eq, if_pos, guard_pos, Int.toNat_natCast, wI_id]
      by_cases h : nth a i = nth b i <;> simp [h]
    · unfold laws_sameBools_L1
      rw [if_neg (by simp)]
  · rw [if_pos (by simp; omega)]
    simp [show a ≠ b from fun h => hl (by rw [h])]

/-! ### Draws -/
theorem calls_ok {c : l1CurT} {K : Int} (h : cur c K) (hK : K ≤ 4611686018427380000) : ∃ l c', spec_l1Cur_calls_o c = some (l, c') ∧ l.length ≤ 125 ∧ cur c' (K + 600) := by
  unfold spec_l1Cur_calls_o
  obtain ⟨x1, c1, e1, _, _, _, h1⟩ := pick_ok 5 h (by omega) (by omega)
  obtain ⟨x2, c2, e2, p2, _, q2, h2⟩ := pick_ok 20 h1 (by omega) (by omega)
  obtain ⟨x3, c3, e3, h3⟩ := one_ok 20 h2 (by omega) (by omega)
  have q2 := q2 (by omega)
  rw [e1]; simp only [Option.bind_some]
  rw [e2]; simp only [Option.bind_some]
  rw [e3]; simp only [Option.bind_some]
  have hj : ∃ (N : Int) (c4 : l1CurT), (if x3 = true then (spec_l1Cur_pick_o c3 2).bind fun c124 => some (⟨wI (120 + c124.1), c124.2.code, c124.2.at_, c124.2.seed⟩ : spec_l1Cur_calls_o_J2011) else some ⟨x2, c3.code, c3.at_, c3.seed⟩) = some ⟨N, c4.code, c4.at_, c4.seed⟩ ∧ 0 ≤ N ∧ N ≤ 125 ∧ cur c4 (K + 8) := by
    cases x3
    · exact ⟨x2, c3, rfl, p2, by omega, h3.up (by omega)⟩
    · obtain ⟨x4, c4, e4, p4, _, q4, h4⟩ := pick_ok 2 h3 (by omega) (by omega)
      have q4 := q4 (by omega)
      rw [if_pos rfl, e4]
      exact ⟨_, c4, rfl, by rw [wI_id (by omega)]; omega, by rw [wI_id (by omega)]; omega, h4.up (by omega)⟩
  obtain ⟨N, c4, e4, n0, n1, h4⟩ := hj
  rw [e4]; simp only [Option.bind_some]
  obtain ⟨y, ey, hy⟩ := okO.loop (step := spec_l1Cur_calls_o_L1) (Q := fun y => (y.c1.length : Int) ≤ N ∧ cur ⟨y.b0_0, y.b0_1, y.b0_2⟩ (K + 8 + 4 * N)) (s := ⟨x1, N, c4.code, c4.at_, c4.seed, []⟩)
    (fun s => 0 ≤ s.t5 ∧ s.t5 ≤ N ∧ (s.c1.length : Int) + s.t5 = N ∧ cur ⟨s.b0_0, s.b0_1, s.b0_2⟩ (K + 8 + 4 * (N - s.t5))) (fun s => s.t5.toNat) ⟨n0, by simp, by simp, h4.up (by simp)⟩ (by
      intro s hs
      obtain ⟨s0, s1, s2, s3⟩ := hs
      unfold spec_l1Cur_calls_o_L1
      refine okO.ite (fun hp => ?_) (fun hp => ?_)
      · simp only [decide_eq_true_eq] at hp
        refine one_b s3 (by omega) (by omega) fun b5 c5 h5 => okO.guard (by omega) ?_
        refine pick_b h5 (by omega) (by omega) fun x6 c6 _ _ _ h6 => okO.some ?_
        simp only [wI_id (n := s.t5 - 1) (by omega)]
        exact ⟨⟨by omega, by omega, by simp; omega, h6.up (by omega)⟩, by omega⟩
      · simp only [decide_eq_false_iff_not] at hp
        exact okO.some ⟨by simp only; omega, s3.up (by omega)⟩)
  rw [ey]; simp only [Option.bind_some]
  have hj2 : ∃ (b : Bool) (c5 : l1CurT), (if decide (((y.c1.length : Nat) : Int) > 1) = true then (spec_l1Cur_one_o ⟨y.b0_0, y.b0_1, y.b0_2⟩ 30).bind fun c132 => some (⟨c132.1, c132.2.code, c132.2.at_, c132.2.seed⟩ : spec_l1Cur_calls_o_J4010) else some ⟨false, y.b0_0, y.b0_1, y.b0_2⟩) = some ⟨b, c5.code, c5.at_, c5.seed⟩ ∧ cur c5 (K + 600) ∧ (b = true → 1 < y.c1.length) := by
    by_cases hp : ((y.c1.length : Nat) : Int) > 1
    · obtain ⟨b5, c5, e5, h5⟩ := one_ok 30 hy.2 (by omega) (by omega)
      rw [if_pos (decide_eq_true hp), e5]
      exact ⟨b5, c5, rfl, h5.up (by omega), fun _ => by omega⟩
    · rw [if_neg (by simpa using hp)]
      exact ⟨false, ⟨y.b0_0, y.b0_1, y.b0_2⟩, rfl, hy.2.up (by omega), fun h => by cases h⟩
  obtain ⟨b, c5, e5, h5, hb⟩ := hj2
  rw [e5]; simp only [Option.bind_some]
  cases b
  · exact ⟨_, _, rfl, by omega, h5⟩
  · have := hb rfl
    rw [if_pos rfl, guard_pos (by omega), guard_pos (by omega)]
    exact ⟨_, _, rfl, by simp; omega, h5⟩

theorem drawPlay_ok {code : List Int} (h : ∀ y ∈ code, 0 ≤ y ∧ y ≤ 255) : ∃ lim cool l, spec_DrawPlayBreaker code = some (lim, cool, l) := by
  unfold spec_DrawPlayBreaker
  obtain ⟨x1, c1, e1, _, _, _, h1⟩ := pick_ok 4 (cur0 h) (by omega) (by omega)
  obtain ⟨x2, c2, e2, _, _, _, h2⟩ := pick_ok 30 h1 (by omega) (by omega)
  obtain ⟨l, c3, e3, _, h3⟩ := calls_ok h2 (by omega)
  rw [e1]; simp only [Option.bind_some]
  rw [e2]; simp only [Option.bind_some]
  rw [e3]; simp only [Option.bind_some]
  exact ⟨_, _, _, rfl⟩

theorem breaker_ok {c : l1CurT} {K : Int} (h : cur c K) (hK : K ≤ 4611686018427370000) : okO (fun r => cur r.2 (K + 700)) (spec_l1Cur_breaker_o c) := by
  unfold spec_l1Cur_breaker_o
  obtain ⟨l, c1, e1, n1, h1⟩ := calls_ok h (by omega)
  rw [e1]; simp only [Option.bind_some]
  have up : ∀ (c' : l1CurT) (L : Int), cur c' L → L ≤ K + 700 → cur c' (K + 700) := fun _ _ h hl => h.up hl
  refine okO.ite (fun hp => okO.guard (by simp at hp; omega) ?_) (fun hp => ?_)
  all_goals
    refine pick_b h1 (by omega) (by omega) fun x2 c2 _ _ _ h2 => ?_
    refine pick_b h2 (by omega) (by omega) fun x3 c3 _ _ _ h3 => ?_
    rw [spec_PlayBreaker_eq, spec_NewBreaker_eq]
    simp only [Option.bind_some]
    refine okO.bind_ite (fun _ => ?_) (fun _ => ?_)
    all_goals
      refine okO.bind_some ?_
      refine okO.bind_bind ?_
      refine okO.bind_ite (fun _ => ?_) (fun _ => ?_)
      · refine okO.bind_bind ?_
        refine one_b h3 (by omega) (by omega) fun b6 c6 h6 => ?_
        simp only [Option.bind_some]
        refine okO.bind_ite (fun _ => ?_) (fun _ => ?_)
        all_goals
          simp only [Option.bind_some]
          refine one_b h6 (by omega) (by omega) fun b7 c7 h7 => ?_
          refine okO.ite (fun _ => okO.some (up _ _ h7 (by omega))) (fun _ => okO.some (up _ _ h7 (by omega)))
      · simp only [Option.bind_some, Bool.false_eq_true, if_false]
        refine one_b h3 (by omega) (by omega) fun b7 c7 h7 => ?_
        refine okO.ite (fun _ => okO.some (up _ _ h7 (by omega))) (fun _ => okO.some (up _ _ h7 (by omega)))

theorem drawCall_ok {code : List Int} (h : ∀ y ∈ code, 0 ≤ y ∧ y ≤ 255) : ∃ b c, spec_DrawCallBreaker code = some (b, c) := by
  unfold spec_DrawCallBreaker
  obtain ⟨⟨b, c1⟩, e1, h1⟩ := breaker_ok (cur0 h) (by omega)
  obtain ⟨x2, c2, e2, _, _, _, h2⟩ := pick_ok 60 h1 (by omega) (by omega)
  obtain ⟨x3, c3, e3, _, _, _, h3⟩ := pick_ok 2 h2 (by omega) (by omega)
  obtain ⟨b4, c4, e4, _⟩ := one_ok 2 h3 (by omega) (by omega)
  rw [e1]; simp only [Option.bind_some]
  rw [e2]; simp only [Option.bind_some]
  rw [e3]; simp only [Option.bind_some]
  rw [e4]; simp only [Option.bind_some]
  exact ⟨_, _, rfl⟩

theorem breaker_holds (a b : List Int) (ha : ∀ y ∈ a, 0 ≤ y ∧ y ≤ 255) (hb : ∀ y ∈ b, 0 ≤ y ∧ y ≤ 255) : laws_FnBreaker a b = some true := by
  unfold laws_FnBreaker
  by_cases hl : wI (((a.length : Nat) : Int) + ((b.length : Nat) : Int)) > 1048576
  · rw [if_pos (decide_eq_true hl)]
  rw [if_neg (by simpa using hl)]
  obtain ⟨lim, cool, l, e1⟩ := drawPlay_ok ha
  obtain ⟨br, c, e2⟩ := drawCall_ok hb
  rw [e1]; simp only [Option.bind_some]
  rw [impl_PlayBreaker_eq, spec_PlayBreaker_eq]; simp only [Option.bind_some]
  have hlen : (playB lim cool l).2.1.length ≤ 9223372036854775807 := by
    unfold playB
    split
    · rename_i h
      unfold okPlay at h
      simp only [Bool.and_eq_true, decide_eq_true_eq] at h
      simp; omega
    · simp
  rw [sameBools_eq _ _ hlen]
  simp only [beq_self_eq_true, Bool.and_self, Bool.not_true, Bool.false_eq_true, if_false, Option.bind_some, decide_true, e2, impl_CallBreaker_eq, spec_CallBreaker_eq, impl_AllowsAt_eq, impl_GoodBreaker_eq]
  have hgood : goodB br = true ∧ (0 ≤ c.Now ∧ c.Now ≤ 1000000) → goodB (callB br c).1 = true := fun h => callB_good h.1 h.2
  by_cases hp : okPlay lim cool l = true
  · have e0 : playB lim cool l = (stB (newB lim cool) l l.length, (List.range l.length).map (outB (newB lim cool) l), true) := by unfold playB; rw [if_pos hp]
    have hloop := law_loop lim cool l hp
    have hg : goodB (stB (newB lim cool) l l.length) = true := by
      unfold okPlay at hp
      simp only [Bool.and_eq_true, decide_eq_true_eq] at hp
      exact stB_good (newB_good hp.1.1.1 hp.1.1.2) _ (allN_iff.1 hp.2)
    have hh := stB_half (b := newB lim cool) l (.inl rfl) l.length
    have hgi := goodB_iff.1 hg
    have hS : ((stB (newB lim cool) l l.length).State == 1) = decide (openB (stB (newB lim cool) l l.length) ≥ 0) := by
      unfold openB
      rcases hh with h0 | h0
      · simp [h0]
      · simp [h0, hgi.2.2.2.1.1]
    rw [e0] at hloop
    simp only [e0, if_true, hloop, Option.bind_some, hS, hg, beq_self_eq_true, Bool.not_true, Bool.false_eq_true, if_false]
    by_cases hc : goodB br = true ∧ 0 ≤ c.Now ∧ c.Now ≤ 1000000
    · have hcg := hgood hc
      have hal := callB_allows br c
      simp only [if_pos hc, ← hal]
      cases ha : (callB br c).2
      · have := callB_not ha
        simp [this, hc.1]
      · simp [hcg]
    · simp only [if_neg hc]
      simp
  · have e0 : playB lim cool l = (⟨0, 0, 0, 0, 0⟩, [], false) := by unfold playB; rw [if_neg hp]
    simp only [e0, Bool.false_eq_true, if_false, Option.bind_some, beq_self_eq_true, Bool.not_true]
    by_cases hc : goodB br = true ∧ 0 ≤ c.Now ∧ c.Now ≤ 1000000
    · have hcg := hgood hc
      have hal := callB_allows br c
      simp only [if_pos hc, ← hal]
      cases ha : (callB br c).2
      · have := callB_not ha
        simp [this, hc.1]
      · simp [hcg]
    · simp only [if_neg hc]
      simp
end Go.TL

import Derived.Test.YtmooampfjclmiaaGreatDoorG19PlR1
import Derived.Test.YtmooampfjclmiaaGreatDoorPlLib
set_option linter.unusedSimpArgs false
set_option linter.unusedVariables false
set_option linter.unusedVariables false
set_option linter.unusedSimpArgs false
set_option maxRecDepth 4000
namespace Go.TL
def ok_S (x : ByteArray) : Prop := x.size ≤ 9223372036854775807
def siz_S (x : ByteArray) : Nat := x.size
def lk_S (_ : ByteArray) : Prop := True
theorem lk_of_S {x : ByteArray} (_ : ok_S x) : lk_S x := trivial
def ok_LS (x : (List ByteArray)) : Prop := x.length ≤ 9223372036854775807 ∧ ∀ y ∈ x, ok_S y
def siz_LS (x : (List ByteArray)) : Nat := x.length + sumN (x.map siz_S)
def lk_LS (x : (List ByteArray)) : Prop := x.length ≤ 9223372036854775807 ∧ ∀ y ∈ x, lk_S y
theorem lk_of_LS {x : (List ByteArray)} (h : ok_LS x) : lk_LS x := ⟨h.1, fun y hy => lk_of_S (h.2 y hy)⟩
theorem laws_szStringS_eq (a : (List ByteArray)) (n : Int) (ha : ok_LS a) (h0 : 0 ≤ n) (h1 : n ≤ 4611686018427387904) : laws_szStringS a n = some (szr (siz_LS a) n) := by
  obtain ⟨ha1, ha2⟩ := ha
  unfold laws_szStringS
  rw [wI_id (by omega)]
  by_cases hc : n - ((a.length : Nat) : Int) < 0
  · rw [if_pos (decide_eq_true hc)]
    unfold szr siz_LS
    rw [if_neg (by omega)]
  · rw [if_neg (by simpa using hc)]
    have key := sz_loop (step := laws_szStringS_L1 a) (fun i s => (⟨s, i⟩ : laws_szStringS_G1)) a siz_S n (fun s => (.inr ⟨s⟩ : Unit ⊕ laws_szStringS_P1_1)) (.inl ()) (fun i s hi hs => ?_) (fun s hs => ?_) (n - ((a.length : Nat) : Int)) ⟨by omega, by omega⟩
    · rw [key]
      unfold szr siz_LS
      by_cases h : (sumN (a.map siz_S) : Int) ≤ n - ((a.length : Nat) : Int)
      · rw [if_pos h, if_pos (by omega)]; simp only [Option.bind_some]; congr 1; omega
      · rw [if_neg h, if_neg (by omega)]; rfl
    · have hm := ha2 _ (nth_mem hi)
      unfold laws_szStringS_L1
      unfold ok_S at hm
      have hsz : siz_S (nth a i) = (nth a i).size := rfl
      rw [hsz]
      simp (disch := omega) only [decide_eq_true_eq, if_pos, guard_pos, Int.toNat_natCast, wI_id]
      by_cases h : ((nth a i).size : Int) ≤ s
      · rw [if_pos h, if_neg (by omega)]; rfl
      · rw [if_neg h, if_pos (by omega)]
    · unfold laws_szStringS_L1
      rw [if_neg (by simp)]
def ok_B (_ : Bool) : Prop := True
def siz_B (_ : Bool) : Nat := 0
def lk_B (_ : Bool) : Prop := True
theorem lk_of_B {x : Bool} (_ : ok_B x) : lk_B x := trivial
def ok_I (x : Int) : Prop := -9223372036854775808 ≤ x ∧ x ≤ 9223372036854775807
def siz_I (_ : Int) : Nat := 0
def lk_I (_ : Int) : Prop := True
theorem lk_of_I {x : Int} (_ : ok_I x) : lk_I x := trivial
def ok_Packet (x : PacketT) : Prop := ok_B x.Ack ∧ ok_I x.No ∧ ok_S x.Text
def siz_Packet (x : PacketT) : Nat := siz_B x.Ack + siz_I x.No + siz_S x.Text
def lk_Packet (x : PacketT) : Prop := lk_B x.Ack ∧ lk_I x.No ∧ lk_S x.Text
theorem lk_of_Packet {x : PacketT} (h : ok_Packet x) : lk_Packet x := ⟨lk_of_B h.1, lk_of_I h.2.1, lk_of_S h.2.2⟩
theorem siz0_B (x : Bool) : siz_B x = 0 := rfl
theorem siz0_I (x : Int) : siz_I x = 0 := rfl
theorem laws_szPacket_eq (a : PacketT) (n : Int) (ha : ok_Packet a) (h0 : 0 ≤ n) (h1 : n ≤ 4611686018427387904) : laws_szPacket a n = some (szr (siz_Packet a) n) := by
  unfold laws_szPacket
  unfold ok_Packet at ha
  unfold siz_Packet
  have z_Ack : siz_B a.Ack = 0 := siz0_B _
  rw [z_Ack]
  have z_No : siz_I a.No = 0 := siz0_I _
  rw [z_No]
  have q0 : a.Text.size ≤ 9223372036854775807 := ha.2.2
  have z0 : siz_S a.Text = a.Text.size := rfl
  rw [z0, wI_id (by omega)]
  have e0 : szr a.Text.size (n) = if (a.Text.size : Int) ≤ n then n - (a.Text.size : Int) else -1 := rfl
  by_cases c0 : (a.Text.size : Int) ≤ n
  rotate_left
  · rw [if_pos (by simp; omega)]; unfold szr; rw [if_neg (by omega)]
  rw [if_neg (by simp; omega)]
  unfold szr; rw [if_pos (by omega)]
  congr 1; omega
def ok_LPacket (x : (List PacketT)) : Prop := x.length ≤ 9223372036854775807 ∧ ∀ y ∈ x, ok_Packet y
def siz_LPacket (x : (List PacketT)) : Nat := x.length + sumN (x.map siz_Packet)
def lk_LPacket (x : (List PacketT)) : Prop := x.length ≤ 9223372036854775807 ∧ ∀ y ∈ x, lk_Packet y
theorem lk_of_LPacket {x : (List PacketT)} (h : ok_LPacket x) : lk_LPacket x := ⟨h.1, fun y hy => lk_of_Packet (h.2 y hy)⟩
theorem laws_szPacketS_eq (a : (List PacketT)) (n : Int) (ha : ok_LPacket a) (h0 : 0 ≤ n) (h1 : n ≤ 4611686018427387904) : laws_szPacketS a n = some (szr (siz_LPacket a) n) := by
  obtain ⟨ha1, ha2⟩ := ha
  unfold laws_szPacketS
  rw [wI_id (by omega)]
  by_cases hc : n - ((a.length : Nat) : Int) < 0
  · rw [if_pos (decide_eq_true hc)]
    unfold szr siz_LPacket
    rw [if_neg (by omega)]
  · rw [if_neg (by simpa using hc)]
    have key := sz_loop (step := laws_szPacketS_L1 a) (fun i s => (⟨s, i⟩ : laws_szPacketS_G1)) a siz_Packet n (fun s => (.inr ⟨s⟩ : Unit ⊕ laws_szPacketS_P1_1)) (.inl ()) (fun i s hi hs => ?_) (fun s hs => ?_) (n - ((a.length : Nat) : Int)) ⟨by omega, by omega⟩
    · rw [key]
      unfold szr siz_LPacket
      by_cases h : (sumN (a.map siz_Packet) : Int) ≤ n - ((a.length : Nat) : Int)
      · rw [if_pos h, if_pos (by omega)]; simp only [Option.bind_some]; congr 1; omega
      · rw [if_neg h, if_neg (by omega)]; rfl
    · have hm := ha2 _ (nth_mem hi)
      unfold laws_szPacketS_L1
      simp (disch := omega) only [decide_eq_true_eq, if_pos, guard_pos, Int.toNat_natCast, wI_id]
      rw [laws_szPacket_eq _ _ hm (by omega) (by omega)]
      simp only [Option.bind_some]
      unfold szr
      by_cases h : (siz_Packet (nth a i) : Int) ≤ s
      · rw [if_pos h, if_pos h, if_neg (by omega)]; rfl
      · rw [if_neg h, if_neg h, if_pos (by omega)]
    · unfold laws_szPacketS_L1
      rw [if_neg (by simp)]
def ok_Queue (x : QueueT) : Prop := ok_I x.Window ∧ ok_LS x.Sent ∧ ok_I x.Base ∧ ok_LS x.Got ∧ ok_LPacket x.Line
def siz_Queue (x : QueueT) : Nat := siz_I x.Window + siz_LS x.Sent + siz_I x.Base + siz_LS x.Got + siz_LPacket x.Line
def lk_Queue (x : QueueT) : Prop := lk_I x.Window ∧ lk_LS x.Sent ∧ lk_I x.Base ∧ lk_LS x.Got ∧ lk_LPacket x.Line
theorem lk_of_Queue {x : QueueT} (h : ok_Queue x) : lk_Queue x := ⟨lk_of_I h.1, lk_of_LS h.2.1, lk_of_I h.2.2.1, lk_of_LS h.2.2.2.1, lk_of_LPacket h.2.2.2.2⟩
theorem laws_szQueue_eq (a : QueueT) (n : Int) (ha : ok_Queue a) (h0 : 0 ≤ n) (h1 : n ≤ 4611686018427387904) : laws_szQueue a n = some (szr (siz_Queue a) n) := by
  unfold laws_szQueue
  unfold ok_Queue at ha
  unfold siz_Queue
  have z_Window : siz_I a.Window = 0 := siz0_I _
  rw [z_Window]
  have z_Base : siz_I a.Base = 0 := siz0_I _
  rw [z_Base]
  rw [laws_szStringS_eq _ _ (ha.2.1) (by omega) (by omega)]
  simp only [Option.bind_some]
  by_cases c0 : (siz_LS a.Sent : Int) ≤ n
  rotate_left
  · have e : szr (siz_LS a.Sent) n = -1 := by unfold szr; rw [if_neg c0]
    rw [e, if_pos (by decide)]; unfold szr; rw [if_neg (by omega)]
  have e0 : szr (siz_LS a.Sent) n = n - (siz_LS a.Sent : Int) := by unfold szr; rw [if_pos c0]
  rw [e0, if_neg (by simp; omega)]
  rw [laws_szStringS_eq _ _ (ha.2.2.2.1) (by omega) (by omega)]
  simp only [Option.bind_some]
  by_cases c1 : (siz_LS a.Got : Int) ≤ (n - (siz_LS a.Sent : Int))
  rotate_left
  · have e : szr (siz_LS a.Got) (n - (siz_LS a.Sent : Int)) = -1 := by unfold szr; rw [if_neg c1]
    rw [e, if_pos (by decide)]; unfold szr; rw [if_neg (by omega)]
  have e1 : szr (siz_LS a.Got) (n - (siz_LS a.Sent : Int)) = (n - (siz_LS a.Sent : Int)) - (siz_LS a.Got : Int) := by unfold szr; rw [if_pos c1]
  rw [e1, if_neg (by simp; omega)]
  rw [laws_szPacketS_eq _ _ (ha.2.2.2.2) (by omega) (by omega)]
  simp only [Option.bind_some]
  by_cases c2 : (siz_LPacket a.Line : Int) ≤ ((n - (siz_LS a.Sent : Int)) - (siz_LS a.Got : Int))
  rotate_left
  · have e : szr (siz_LPacket a.Line) ((n - (siz_LS a.Sent : Int)) - (siz_LS a.Got : Int)) = -1 := by unfold szr; rw [if_neg c2]
    rw [e, if_pos (by decide)]; unfold szr; rw [if_neg (by omega)]
  have e2 : szr (siz_LPacket a.Line) ((n - (siz_LS a.Sent : Int)) - (siz_LS a.Got : Int)) = ((n - (siz_LS a.Sent : Int)) - (siz_LS a.Got : Int)) - (siz_LPacket a.Line : Int) := by unfold szr; rw [if_pos c2]
  rw [e2, if_neg (by simp; omega)]
  unfold szr; rw [if_pos (by omega)]
  congr 1; omega
theorem laws_toStringS_eq (a : (List ByteArray)) (ha : siz_LS a ≤ 4194304) : laws_toStringS a = some a := by
  unfold siz_LS at ha
  unfold laws_toStringS
  rw [guard_pos (by omega)]
  have key := fill_loop (step := laws_toStringS_L1 a) (fun i l => (⟨i, l⟩ : laws_toStringS_G1)) a (fun x => x) (fun l => (⟨l⟩ : laws_toStringS_P1_0)) (fun i l hi hl => ?_) (fun l hl => ?_) (List.replicate a.length ByteArray.empty) (by simp)
  · rw [key]; simp
  · unfold laws_toStringS_L1
    simp (disch := omega) only [decide_eq_true_eq, if_pos, guard_pos, Int.toNat_natCast, wI_id]
    rfl
  · unfold laws_toStringS_L1
    rw [if_neg (by simp)]
theorem laws_toPacket_eq (a : PacketT) (ha : siz_Packet a ≤ 4194304) : laws_toPacket a = some a := by
  unfold siz_Packet at ha
  unfold laws_toPacket
  all_goals rfl
theorem laws_toPacketS_eq (a : (List PacketT)) (ha : siz_LPacket a ≤ 4194304) : laws_toPacketS a = some a := by
  unfold siz_LPacket at ha
  unfold laws_toPacketS
  rw [guard_pos (by omega)]
  have key := fill_loop (step := laws_toPacketS_L1 a) (fun i l => (⟨i, l⟩ : laws_toPacketS_G1)) a (fun x => x) (fun l => (⟨l⟩ : laws_toPacketS_P1_0)) (fun i l hi hl => ?_) (fun l hl => ?_) (List.replicate a.length (⟨false, 0, ByteArray.empty⟩ : PacketT)) (by simp)
  · rw [key]; simp
  · unfold laws_toPacketS_L1
    have hm : siz_Packet (nth a i) ≤ 4194304 := Nat.le_trans (sumN_mem siz_Packet (nth_mem hi)) (by omega)
    simp (disch := omega) only [decide_eq_true_eq, if_pos, guard_pos, Int.toNat_natCast, wI_id]
    rw [laws_toPacket_eq _ hm]
    simp (disch := omega) only [Option.bind_some, guard_pos]
    rfl
  · unfold laws_toPacketS_L1
    rw [if_neg (by simp)]
theorem laws_toQueue_eq (a : QueueT) (ha : siz_Queue a ≤ 4194304) : laws_toQueue a = some a := by
  unfold siz_Queue at ha
  unfold laws_toQueue
  rw [laws_toStringS_eq _ (by omega)]
  simp only [Option.bind_some]
  rw [laws_toStringS_eq _ (by omega)]
  simp only [Option.bind_some]
  rw [laws_toPacketS_eq _ (by omega)]
  simp only [Option.bind_some]
  all_goals rfl
theorem laws_eqStringS_eq (a b : (List ByteArray)) (ha : lk_LS a) : laws_eqStringS a b = some (decide (a = b)) := by
  obtain ⟨ha1, ha2⟩ := ha
  unfold laws_eqStringS
  by_cases hl : a.length = b.length
  · rw [if_neg (by simp [hl])]
    have key := eq_loop (step := laws_eqStringS_L1 a b) (fun i => (⟨i⟩ : laws_eqStringS_G1)) a b hl (fun i hi => ?_) ?_
    · rw [key]; by_cases h : a = b <;> simp [h]
    · have hm := ha2 _ (nth_mem hi)
      unfold laws_eqStringS_L1
      simp (disch := omega) only [decide_eq_true_eq, if_pos, guard_pos, Int.toNat_natCast, wI_id]
      rw [sEq]
      by_cases h : nth a i = nth b i <;> simp [h]
    · unfold laws_eqStringS_L1
      rw [if_neg (by simp)]
  · rw [if_pos (by simp; omega)]
    simp [show a ≠ b from fun h => hl (by rw [h])]
theorem laws_eqPacket_eq (a b : PacketT) (ha : lk_Packet a) : laws_eqPacket a b = some (decide (a = b)) := by
  unfold lk_Packet at ha
  unfold laws_eqPacket
  obtain ⟨x0, x1, x2⟩ := a
  obtain ⟨y0, y1, y2⟩ := b
  simp only [sEq, Option.bind_some, PacketT.mk.injEq]
  by_cases h0 : x0 = y0
  rotate_left
  · simp [h0]
  by_cases h1 : x1 = y1
  rotate_left
  · simp [h1]
  by_cases h2 : x2 = y2
  rotate_left
  · simp [h2]
  simp [h0, h1, h2]
theorem laws_eqPacketS_eq (a b : (List PacketT)) (ha : lk_LPacket a) : laws_eqPacketS a b = some (decide (a = b)) := by
  obtain ⟨ha1, ha2⟩ := ha
  unfold laws_eqPacketS
  by_cases hl : a.length = b.length
  · rw [if_neg (by simp [hl])]
    have key := eq_loop (step := laws_eqPacketS_L1 a b) (fun i => (⟨i⟩ : laws_eqPacketS_G1)) a b hl (fun i hi => ?_) ?_
    · rw [key]; by_cases h : a = b <;> simp [h]
    · have hm := ha2 _ (nth_mem hi)
      unfold laws_eqPacketS_L1
      simp (disch := omega) only [decide_eq_true_eq, if_pos, guard_pos, Int.toNat_natCast, wI_id]
      rw [laws_eqPacket_eq _ _ hm]; simp only [Option.bind_some]
      by_cases h : nth a i = nth b i <;> simp [h]
    · unfold laws_eqPacketS_L1
      rw [if_neg (by simp)]
  · rw [if_pos (by simp; omega)]
    simp [show a ≠ b from fun h => hl (by rw [h])]
theorem laws_eqQueue_eq (a b : QueueT) (ha : lk_Queue a) : laws_eqQueue a b = some (decide (a = b)) := by
  unfold lk_Queue at ha
  unfold laws_eqQueue
  rw [laws_eqStringS_eq _ _ (ha.2.1)]
  rw [laws_eqStringS_eq _ _ (ha.2.2.2.1)]
  rw [laws_eqPacketS_eq _ _ (ha.2.2.2.2)]
  obtain ⟨x0, x1, x2, x3, x4⟩ := a
  obtain ⟨y0, y1, y2, y3, y4⟩ := b
  simp only [sEq, Option.bind_some, QueueT.mk.injEq]
  by_cases h0 : x0 = y0
  rotate_left
  · simp [h0]
  by_cases h1 : x1 = y1
  rotate_left
  · simp [h1]
  by_cases h2 : x2 = y2
  rotate_left
  · simp [h2]
  by_cases h3 : x3 = y3
  rotate_left
  · simp [h3]
  by_cases h4 : x4 = y4
  rotate_left
  · simp [h4]
  simp [h0, h1, h2, h3, h4]
end Go.TL

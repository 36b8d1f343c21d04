import Derived.Test.YtjhcfmcdllfmpaaDoorG0TlCore
import Derived.Test.YtjhcfmcdllfmpaaDoorPlTrim
set_option linter.unusedSimpArgs false
set_option linter.unusedVariables false
namespace Go.TL
structure PacketT where
  Ack : Bool
  No : Int
  Text : ByteArray
  deriving DecidableEq, Inhabited
structure QueueT where
  Window : Int
  Sent : (List ByteArray)
  Base : Int
  Got : (List ByteArray)
  Line : (List PacketT)
  deriving DecidableEq, Inhabited
structure laws_szStringS_G1 where
  t1 : Int
  t5 : Int
structure laws_szStringS_P1_1 where
  t1 : Int
noncomputable def laws_szStringS_L1 (a0 : (List ByteArray)) (g1 : laws_szStringS_G1) : Option (laws_szStringS_G1 ⊕ (Unit ⊕ laws_szStringS_P1_1)) :=
  (if (decide (g1.t5 < ((a0.length : Nat) : Int))) = true then
    (guardO (0 ≤ g1.t5 ∧ g1.t5 < (a0.length : Int)) <|
    (if (decide ((wI (g1.t1 - ((nth a0 g1.t5.toNat).size : Int))) < 0)) = true then
      some (.inr (.inl ()))
    else
      some (.inl ⟨(wI (g1.t1 - ((nth a0 g1.t5.toNat).size : Int))), (wI (g1.t5 + 1))⟩)))
  else
    some (.inr (.inr (⟨g1.t1⟩))))
noncomputable def laws_szStringS (a0 : (List ByteArray)) (a1 : Int) : Option Int :=
  (if (decide ((wI (a1 - ((a0.length : Nat) : Int))) < 0)) = true then
    some (-1)
  else
    ((loopF (laws_szStringS_L1 a0) ⟨(wI (a1 - ((a0.length : Nat) : Int))), 0⟩).bind fun y2 =>
    match y2 with
    | .inl p3 =>
      some (-1)
    | .inr p4 =>
      some p4.t1))
noncomputable def laws_szPacket (a0 : PacketT) (a1 : Int) : Option Int :=
  (if (decide ((wI (a1 - (a0.Text.size : Int))) < 0)) = true then
    some (-1)
  else
    some (wI (a1 - (a0.Text.size : Int))))
structure laws_szPacketS_G1 where
  t1 : Int
  t5 : Int
structure laws_szPacketS_P1_1 where
  t1 : Int
noncomputable def laws_szPacketS_L1 (a0 : (List PacketT)) (g7 : laws_szPacketS_G1) : Option (laws_szPacketS_G1 ⊕ (Unit ⊕ laws_szPacketS_P1_1)) :=
  (if (decide (g7.t5 < ((a0.length : Nat) : Int))) = true then
    (guardO (0 ≤ g7.t5 ∧ g7.t5 < (a0.length : Int)) <|
    ((laws_szPacket (nth a0 g7.t5.toNat) g7.t1).bind fun c9 =>
    (if (decide (c9 < 0)) = true then
      some (.inr (.inl ()))
    else
      some (.inl ⟨c9, (wI (g7.t5 + 1))⟩))))
  else
    some (.inr (.inr (⟨g7.t1⟩))))
noncomputable def laws_szPacketS (a0 : (List PacketT)) (a1 : Int) : Option Int :=
  (if (decide ((wI (a1 - ((a0.length : Nat) : Int))) < 0)) = true then
    some (-1)
  else
    ((loopF (laws_szPacketS_L1 a0) ⟨(wI (a1 - ((a0.length : Nat) : Int))), 0⟩).bind fun y10 =>
    match y10 with
    | .inl p11 =>
      some (-1)
    | .inr p12 =>
      some p12.t1))
noncomputable def laws_szQueue (a0 : QueueT) (a1 : Int) : Option Int :=
  ((laws_szStringS a0.Sent a1).bind fun c5 =>
  (if (decide (c5 < 0)) = true then
    some (-1)
  else
    ((laws_szStringS a0.Got c5).bind fun c6 =>
    (if (decide (c6 < 0)) = true then
      some (-1)
    else
      ((laws_szPacketS a0.Line c6).bind fun c13 =>
      (if (decide (c13 < 0)) = true then
        some (-1)
      else
        some c13))))))
structure laws_toStringS_G1 where
  t4 : Int
  c0 : (List ByteArray)
structure laws_toStringS_P1_0 where
  c0 : (List ByteArray)
noncomputable def laws_toStringS_L1 (a0 : (List ByteArray)) (g15 : laws_toStringS_G1) : Option (laws_toStringS_G1 ⊕ laws_toStringS_P1_0) :=
  (if (decide (g15.t4 < ((a0.length : Nat) : Int))) = true then
    (guardO (0 ≤ g15.t4 ∧ g15.t4 < (a0.length : Int)) <|
    (guardO (0 ≤ g15.t4 ∧ g15.t4 < ((g15.c0.length : Nat) : Int)) <|
    some (.inl ⟨(wI (g15.t4 + 1)), (g15.c0.set g15.t4.toNat (nth a0 g15.t4.toNat))⟩)))
  else
    some (.inr (⟨g15.c0⟩)))
noncomputable def laws_toStringS (a0 : (List ByteArray)) : Option (List ByteArray) :=
  (guardO (0 ≤ ((a0.length : Nat) : Int) ∧ ((a0.length : Nat) : Int) * 16 ≤ 281474976710656 ∧ ((a0.length : Nat) : Int) ≤ 9223372036854775807) <|
  ((loopF (laws_toStringS_L1 a0) ⟨0, (List.replicate a0.length ByteArray.empty)⟩).bind fun y16 =>
  some y16.c0))
noncomputable def laws_toPacket (a0 : PacketT) : Option PacketT :=
  some a0
structure laws_toPacketS_G1 where
  t4 : Int
  c0 : (List PacketT)
structure laws_toPacketS_P1_0 where
  c0 : (List PacketT)
noncomputable def laws_toPacketS_L1 (a0 : (List PacketT)) (g19 : laws_toPacketS_G1) : Option (laws_toPacketS_G1 ⊕ laws_toPacketS_P1_0) :=
  (if (decide (g19.t4 < ((a0.length : Nat) : Int))) = true then
    (guardO (0 ≤ g19.t4 ∧ g19.t4 < (a0.length : Int)) <|
    ((laws_toPacket (nth a0 g19.t4.toNat)).bind fun c21 =>
    (guardO (0 ≤ g19.t4 ∧ g19.t4 < ((g19.c0.length : Nat) : Int)) <|
    some (.inl ⟨(wI (g19.t4 + 1)), (g19.c0.set g19.t4.toNat c21)⟩))))
  else
    some (.inr (⟨g19.c0⟩)))
noncomputable def laws_toPacketS (a0 : (List PacketT)) : Option (List PacketT) :=
  (guardO (0 ≤ ((a0.length : Nat) : Int) ∧ ((a0.length : Nat) : Int) * 32 ≤ 281474976710656 ∧ ((a0.length : Nat) : Int) ≤ 9223372036854775807) <|
  ((loopF (laws_toPacketS_L1 a0) ⟨0, (List.replicate a0.length (⟨false, 0, ByteArray.empty⟩ : PacketT))⟩).bind fun y22 =>
  some y22.c0))
noncomputable def laws_toQueue (a0 : QueueT) : Option QueueT :=
  ((laws_toStringS a0.Sent).bind fun c17 =>
  ((laws_toStringS a0.Got).bind fun c18 =>
  ((laws_toPacketS a0.Line).bind fun c23 =>
  some (⟨a0.Window, c17, a0.Base, c18, c23⟩ : QueueT))))
noncomputable def spec_l1In (a0 : Int) (a1 : Int) (a2 : Int) : Option Bool :=
  (if (decide (a0 ≥ a1)) = true then
    some (decide (a0 ≤ a2))
  else
    some false)
structure spec_GoodQueue_J4001 where
  t40 : Bool
structure spec_GoodQueue_G1 where
  t44 : Int
structure spec_GoodQueue_J14006 where
  t67 : Bool
noncomputable def spec_GoodQueue_L1 (a0 : QueueT) (g28 : spec_GoodQueue_G1) : Option (spec_GoodQueue_G1 ⊕ (Unit ⊕ Unit)) :=
  (if (decide (g28.t44 < ((a0.Sent.length : Nat) : Int))) = true then
    (guardO (0 ≤ g28.t44 ∧ g28.t44 < (a0.Sent.length : Int)) <|
    (((if (decide (((nth a0.Sent g28.t44.toNat).size : Int) > 12)) = true then
        some (⟨true⟩ : spec_GoodQueue_J14006)
      else
        (if (decide (g28.t44 < ((a0.Got.length : Nat) : Int))) = true then
          (guardO (0 ≤ g28.t44 ∧ g28.t44 < (a0.Got.length : Int)) <|
          some (⟨(!((nth a0.Got g28.t44.toNat).toList == (nth a0.Sent g28.t44.toNat).toList))⟩ : spec_GoodQueue_J14006))
        else
          some (⟨false⟩ : spec_GoodQueue_J14006))) : Option spec_GoodQueue_J14006).bind fun p30 =>
    (if p30.t67 = true then
      some (.inr (.inl ()))
    else
      some (.inl ⟨(wI (g28.t44 + 1))⟩))))
  else
    some (.inr (.inr ())))
structure spec_GoodQueue_G2 where
  t72 : Int
structure spec_GoodQueue_J14013 where
  t89 : Bool
structure spec_GoodQueue_J14015 where
  t118 : Bool
noncomputable def spec_GoodQueue_L2 (a0 : QueueT) (g34 : spec_GoodQueue_G2) : Option (spec_GoodQueue_G2 ⊕ (Unit ⊕ Unit)) :=
  (if (decide (g34.t72 < ((a0.Line.length : Nat) : Int))) = true then
    (guardO (0 ≤ g34.t72 ∧ g34.t72 < (a0.Line.length : Int)) <|
    (if (nth a0.Line g34.t72.toNat).Ack = true then
      ((((spec_l1In ((nth a0.Line g34.t72.toNat).No) 0 ((a0.Got.length : Nat) : Int)).bind fun c39 =>
        (if (!c39) = true then
          some (⟨true⟩ : spec_GoodQueue_J14013)
        else
          some (⟨(!(((nth a0.Line g34.t72.toNat).Text).toList == ByteArray.empty.toList))⟩ : spec_GoodQueue_J14013))) : Option spec_GoodQueue_J14013).bind fun p40 =>
      (if p40.t89 = true then
        some (.inr (.inl ()))
      else
        some (.inl ⟨(wI (g34.t72 + 1))⟩)))
    else
      ((((spec_l1In ((nth a0.Line g34.t72.toNat).No) 0 (wI (((a0.Sent.length : Nat) : Int) - 1))).bind fun c41 =>
        (if (!c41) = true then
          some (⟨true⟩ : spec_GoodQueue_J14015)
        else
          (if (decide (((nth a0.Line g34.t72.toNat).No) ≥ (wI (a0.Base + a0.Window)))) = true then
            some (⟨true⟩ : spec_GoodQueue_J14015)
          else
            (guardO (0 ≤ ((nth a0.Line g34.t72.toNat).No) ∧ ((nth a0.Line g34.t72.toNat).No) < (a0.Sent.length : Int)) <|
            some (⟨(!(((nth a0.Line g34.t72.toNat).Text).toList == (nth a0.Sent (((nth a0.Line g34.t72.toNat).No).toNat)).toList))⟩ : spec_GoodQueue_J14015))))) : Option spec_GoodQueue_J14015).bind fun p42 =>
      (if p42.t118 = true then
        some (.inr (.inl ()))
      else
        some (.inl ⟨(wI (g34.t72 + 1))⟩)))))
  else
    some (.inr (.inr ())))
noncomputable def spec_GoodQueue (a0 : QueueT) : Option Bool :=
  ((((spec_l1In a0.Window 1 10).bind fun c25 =>
    (if (!c25) = true then
      some (⟨true⟩ : spec_GoodQueue_J4001)
    else
      (if (decide (((a0.Sent.length : Nat) : Int) > 40)) = true then
        some (⟨true⟩ : spec_GoodQueue_J4001)
      else
        (if (decide (((a0.Got.length : Nat) : Int) > ((a0.Sent.length : Nat) : Int))) = true then
          some (⟨true⟩ : spec_GoodQueue_J4001)
        else
          ((spec_l1In a0.Base 0 ((a0.Got.length : Nat) : Int)).bind fun c26 =>
          (if (!c26) = true then
            some (⟨true⟩ : spec_GoodQueue_J4001)
          else
            some (⟨(decide (((a0.Line.length : Nat) : Int) > 40))⟩ : spec_GoodQueue_J4001))))))) : Option spec_GoodQueue_J4001).bind fun p27 =>
  (if p27.t40 = true then
    some false
  else
    ((loopF (spec_GoodQueue_L1 a0) ⟨0⟩).bind fun y31 =>
    match y31 with
    | .inl p32 =>
      some false
    | .inr p33 =>
      ((loopF (spec_GoodQueue_L2 a0) ⟨0⟩).bind fun y43 =>
      match y43 with
      | .inl p44 =>
        some false
      | .inr p45 =>
        some true))))
noncomputable def impl_in (a0 : Int) (a1 : Int) (a2 : Int) : Option Bool :=
  (if (decide (a0 ≥ a1)) = true then
    some (decide (a0 ≤ a2))
  else
    some false)
noncomputable def impl_GoodQueue_c1 (a0 : ByteArray) : Option Bool :=
  some (decide ((a0.size : Int) > 12))
structure slices_IndexFunc_string_impl_GoodQueue_c1_G1 where
  t8 : Int
structure slices_IndexFunc_string_impl_GoodQueue_c1_P1_0 where
  t4 : Int
noncomputable def slices_IndexFunc_string_impl_GoodQueue_c1_L1 (a0 : (List ByteArray)) (g61 : slices_IndexFunc_string_impl_GoodQueue_c1_G1) : Option (slices_IndexFunc_string_impl_GoodQueue_c1_G1 ⊕ (slices_IndexFunc_string_impl_GoodQueue_c1_P1_0 ⊕ Unit)) :=
  (if (decide (g61.t8 < ((a0.length : Nat) : Int))) = true then
    (guardO (0 ≤ g61.t8 ∧ g61.t8 < (a0.length : Int)) <|
    ((impl_GoodQueue_c1 (nth a0 g61.t8.toNat)).bind fun c63 =>
    (if c63 = true then
      some (.inr (.inl (⟨g61.t8⟩)))
    else
      some (.inl ⟨(wI (g61.t8 + 1))⟩))))
  else
    some (.inr (.inr ())))
noncomputable def slices_IndexFunc_string_impl_GoodQueue_c1 (a0 : (List ByteArray)) : Option Int :=
  ((loopF (slices_IndexFunc_string_impl_GoodQueue_c1_L1 a0) ⟨0⟩).bind fun y64 =>
  match y64 with
  | .inl p65 =>
    some p65.t4
  | .inr p66 =>
    some (-1))
noncomputable def slices_ContainsFunc_string_impl_GoodQueue_c1 (a0 : (List ByteArray)) : Option Bool :=
  ((slices_IndexFunc_string_impl_GoodQueue_c1 a0).bind fun c67 =>
  some (decide (c67 ≥ 0)))
structure slices_Equal_string_G1 where
  t13 : Int
noncomputable def slices_Equal_string_L1 (a0 : (List ByteArray)) (a1 : (List ByteArray)) (g70 : slices_Equal_string_G1) : Option (slices_Equal_string_G1 ⊕ (Unit ⊕ Unit)) :=
  (if (decide (g70.t13 < ((a0.length : Nat) : Int))) = true then
    (guardO (0 ≤ g70.t13 ∧ g70.t13 < (a0.length : Int)) <|
    (guardO (0 ≤ g70.t13 ∧ g70.t13 < (a1.length : Int)) <|
    (if (!((nth a0 g70.t13.toNat).toList == (nth a1 g70.t13.toNat).toList)) = true then
      some (.inr (.inl ()))
    else
      some (.inl ⟨(wI (g70.t13 + 1))⟩))))
  else
    some (.inr (.inr ())))
noncomputable def slices_Equal_string (a0 : (List ByteArray)) (a1 : (List ByteArray)) : Option Bool :=
  (if (((a0.length : Nat) : Int) != ((a1.length : Nat) : Int)) = true then
    some false
  else
    ((loopF (slices_Equal_string_L1 a0 a1) ⟨0⟩).bind fun y71 =>
    match y71 with
    | .inl p72 =>
      some false
    | .inr p73 =>
      some true))
noncomputable def impl_Queue_packetOk_r (a0 : QueueT) (a1 : PacketT) : Option Bool :=
  (if a1.Ack = true then
    ((impl_in a1.No 0 ((a0.Got.length : Nat) : Int)).bind fun c78 =>
    (if c78 = true then
      some (a1.Text.toList == ByteArray.empty.toList)
    else
      some false))
  else
    ((impl_in a1.No 0 (wI ((min ((a0.Sent.length : Nat) : Int) (wI (a0.Base + a0.Window))) - 1))).bind fun c79 =>
    (if c79 = true then
      (guardO (0 ≤ a1.No ∧ a1.No < (a0.Sent.length : Int)) <|
      some (a1.Text.toList == (nth a0.Sent a1.No.toNat).toList))
    else
      some false)))
noncomputable def impl_GoodQueue_c2_r (a0 : PacketT) (a1 : QueueT) : Option Bool :=
  ((impl_Queue_packetOk_r a1 a0).bind fun c80 =>
  some (!c80))
structure slices_IndexFunc_impl_Packet_impl_GoodQueue_c2r_G1 where
  t8 : Int
structure slices_IndexFunc_impl_Packet_impl_GoodQueue_c2r_P1_0 where
  t4 : Int
noncomputable def slices_IndexFunc_impl_Packet_impl_GoodQueue_c2r_L1 (a0 : (List PacketT)) (a1 : QueueT) (g77 : slices_IndexFunc_impl_Packet_impl_GoodQueue_c2r_G1) : Option (slices_IndexFunc_impl_Packet_impl_GoodQueue_c2r_G1 ⊕ (slices_IndexFunc_impl_Packet_impl_GoodQueue_c2r_P1_0 ⊕ Unit)) :=
  (if (decide (g77.t8 < ((a0.length : Nat) : Int))) = true then
    (guardO (0 ≤ g77.t8 ∧ g77.t8 < (a0.length : Int)) <|
    ((impl_GoodQueue_c2_r (nth a0 g77.t8.toNat) a1).bind fun c82 =>
    (if c82 = true then
      some (.inr (.inl (⟨g77.t8⟩)))
    else
      some (.inl ⟨(wI (g77.t8 + 1))⟩))))
  else
    some (.inr (.inr ())))
noncomputable def slices_IndexFunc_impl_Packet_impl_GoodQueue_c2r (a0 : (List PacketT)) (a1 : QueueT) : Option Int :=
  ((loopF (slices_IndexFunc_impl_Packet_impl_GoodQueue_c2r_L1 a0 a1) ⟨0⟩).bind fun y83 =>
  match y83 with
  | .inl p84 =>
    some p84.t4
  | .inr p85 =>
    some (-1))
noncomputable def slices_ContainsFunc_impl_Packet_impl_GoodQueue_c2r (a0 : (List PacketT)) (a1 : QueueT) : Option Bool :=
  ((slices_IndexFunc_impl_Packet_impl_GoodQueue_c2r a0 a1).bind fun c86 =>
  some (decide (c86 ≥ 0)))
structure impl_GoodQueue_J4001 where
  t17 : Bool
structure impl_GoodQueue_J4003 where
  t51 : Bool
noncomputable def impl_GoodQueue (a0 : QueueT) : Option Bool :=
  ((((impl_in a0.Window 1 10).bind fun c60 =>
    (if (!c60) = true then
      some (⟨true⟩ : impl_GoodQueue_J4001)
    else
      (if (decide (((a0.Sent.length : Nat) : Int) > 40)) = true then
        some (⟨true⟩ : impl_GoodQueue_J4001)
      else
        ((slices_ContainsFunc_string_impl_GoodQueue_c1 a0.Sent).bind fun c68 =>
        some (⟨c68⟩ : impl_GoodQueue_J4001))))) : Option impl_GoodQueue_J4001).bind fun p69 =>
  (if p69.t17 = true then
    some false
  else
    (((if (decide (((a0.Got.length : Nat) : Int) > ((a0.Sent.length : Nat) : Int))) = true then
        some (⟨true⟩ : impl_GoodQueue_J4003)
      else
        (guardO (0 ≤ ((a0.Got.length : Nat) : Int) ∧ ((a0.Got.length : Nat) : Int) ≤ (a0.Sent.length : Int)) <|
        ((slices_Equal_string a0.Got (a0.Sent.take a0.Got.length)).bind fun c74 =>
        (if (!c74) = true then
          some (⟨true⟩ : impl_GoodQueue_J4003)
        else
          ((impl_in a0.Base 0 ((a0.Got.length : Nat) : Int)).bind fun c75 =>
          (if (!c75) = true then
            some (⟨true⟩ : impl_GoodQueue_J4003)
          else
            some (⟨(decide (((a0.Line.length : Nat) : Int) > 40))⟩ : impl_GoodQueue_J4003))))))) : Option impl_GoodQueue_J4003).bind fun p76 =>
    (if p76.t51 = true then
      some false
    else
      ((slices_ContainsFunc_impl_Packet_impl_GoodQueue_c2r a0.Line a0).bind fun c87 =>
      some (!c87))))))
structure laws_eqStringS_G1 where
  t5 : Int
noncomputable def laws_eqStringS_L1 (a0 : (List ByteArray)) (a1 : (List ByteArray)) (g90 : laws_eqStringS_G1) : Option (laws_eqStringS_G1 ⊕ (Unit ⊕ Unit)) :=
  (if (decide (g90.t5 < ((a0.length : Nat) : Int))) = true then
    (guardO (0 ≤ g90.t5 ∧ g90.t5 < (a0.length : Int)) <|
    (guardO (0 ≤ g90.t5 ∧ g90.t5 < (a1.length : Int)) <|
    (if (!((nth a0 g90.t5.toNat).toList == (nth a1 g90.t5.toNat).toList)) = true then
      some (.inr (.inl ()))
    else
      some (.inl ⟨(wI (g90.t5 + 1))⟩))))
  else
    some (.inr (.inr ())))
noncomputable def laws_eqStringS (a0 : (List ByteArray)) (a1 : (List ByteArray)) : Option Bool :=
  (if (((a0.length : Nat) : Int) != ((a1.length : Nat) : Int)) = true then
    some false
  else
    ((loopF (laws_eqStringS_L1 a0 a1) ⟨0⟩).bind fun y91 =>
    match y91 with
    | .inl p92 =>
      some false
    | .inr p93 =>
      some true))
noncomputable def laws_eqPacket (a0 : PacketT) (a1 : PacketT) : Option Bool :=
  (if (!(a0.Ack == a1.Ack)) = true then
    some false
  else
    (if (a0.No != a1.No) = true then
      some false
    else
      (if (!(a0.Text.toList == a1.Text.toList)) = true then
        some false
      else
        some true)))
structure laws_eqPacketS_G1 where
  t5 : Int
noncomputable def laws_eqPacketS_L1 (a0 : (List PacketT)) (a1 : (List PacketT)) (g96 : laws_eqPacketS_G1) : Option (laws_eqPacketS_G1 ⊕ (Unit ⊕ Unit)) :=
  (if (decide (g96.t5 < ((a0.length : Nat) : Int))) = true then
    (guardO (0 ≤ g96.t5 ∧ g96.t5 < (a0.length : Int)) <|
    (guardO (0 ≤ g96.t5 ∧ g96.t5 < (a1.length : Int)) <|
    ((laws_eqPacket (nth a0 g96.t5.toNat) (nth a1 g96.t5.toNat)).bind fun c98 =>
    (if (!c98) = true then
      some (.inr (.inl ()))
    else
      some (.inl ⟨(wI (g96.t5 + 1))⟩)))))
  else
    some (.inr (.inr ())))
noncomputable def laws_eqPacketS (a0 : (List PacketT)) (a1 : (List PacketT)) : Option Bool :=
  (if (((a0.length : Nat) : Int) != ((a1.length : Nat) : Int)) = true then
    some false
  else
    ((loopF (laws_eqPacketS_L1 a0 a1) ⟨0⟩).bind fun y99 =>
    match y99 with
    | .inl p100 =>
      some false
    | .inr p101 =>
      some true))
noncomputable def laws_eqQueue (a0 : QueueT) (a1 : QueueT) : Option Bool :=
  (if (a0.Window != a1.Window) = true then
    some false
  else
    ((laws_eqStringS a0.Sent a1.Sent).bind fun c94 =>
    (if (!c94) = true then
      some false
    else
      (if (a0.Base != a1.Base) = true then
        some false
      else
        ((laws_eqStringS a0.Got a1.Got).bind fun c95 =>
        (if (!c95) = true then
          some false
        else
          ((laws_eqPacketS a0.Line a1.Line).bind fun c102 =>
          (if (!c102) = true then
            some false
          else
            some true))))))))
noncomputable def laws_FnExactGoodQueue (a0 : QueueT) : Option Bool :=
  ((laws_szQueue a0 1048576).bind fun c14 =>
  (if (decide (c14 < 0)) = true then
    some true
  else
    ((laws_toQueue a0).bind fun c24 =>
    ((spec_GoodQueue c24).bind fun c58 =>
    ((laws_toQueue a0).bind fun c59 =>
    ((impl_GoodQueue c59).bind fun c88 =>
    (if (!(c88 == c58)) = true then
      some false
    else
      ((laws_toQueue a0).bind fun c89 =>
      ((laws_eqQueue c59 c89).bind fun c103 =>
      (if (!c103) = true then
        some false
      else
        some true))))))))))
noncomputable def spec_WaitingIn (a0 : QueueT) : Option (Int × Bool) :=
  ((spec_GoodQueue a0).bind fun c106 =>
  (if (!c106) = true then
    some (0, false)
  else
    some ((wI (((a0.Sent.length : Nat) : Int) - ((a0.Got.length : Nat) : Int))), true)))
noncomputable def impl_WaitingIn (a0 : QueueT) : Option (Int × Bool) :=
  ((impl_GoodQueue a0).bind fun c109 =>
  (if (!c109) = true then
    some (0, false)
  else
    some ((wI (((a0.Sent.length : Nat) : Int) - ((a0.Got.length : Nat) : Int))), true)))
structure laws_FnExactWaitingIn_J4008 where
  t34 : Bool
noncomputable def laws_FnExactWaitingIn (a0 : QueueT) : Option Bool :=
  ((laws_szQueue a0 1048576).bind fun c104 =>
  (if (decide (c104 < 0)) = true then
    some true
  else
    ((laws_toQueue a0).bind fun c105 =>
    ((spec_WaitingIn c105).bind fun c107 =>
    ((laws_toQueue a0).bind fun c108 =>
    ((impl_WaitingIn c108).bind fun c110 =>
    (((if (c110.1 != c107.1) = true then
        some (⟨true⟩ : laws_FnExactWaitingIn_J4008)
      else
        some (⟨(!(c110.2 == c107.2))⟩ : laws_FnExactWaitingIn_J4008)) : Option laws_FnExactWaitingIn_J4008).bind fun p111 =>
    (if p111.t34 = true then
      some false
    else
      ((laws_toQueue a0).bind fun c112 =>
      ((laws_eqQueue c108 c112).bind fun c113 =>
      (if (!c113) = true then
        some false
      else
        some true)))))))))))
structure l1CurT where
  code : (List Int)
  at_ : Int
  seed : Int
  deriving DecidableEq, Inhabited
structure spec_l1Cur_next_o_J2013 where
  t3 : Int
noncomputable def spec_l1Cur_next_o (a0 : l1CurT) : Option (Int × l1CurT) :=
  (((if (decide (a0.at_ < ((a0.code.length : Nat) : Int))) = true then
      (guardO (0 ≤ a0.at_ ∧ a0.at_ < (a0.code.length : Int)) <|
      some (⟨(wI (nth a0.code a0.at_.toNat))⟩ : spec_l1Cur_next_o_J2013))
    else
      some (⟨0⟩ : spec_l1Cur_next_o_J2013)) : Option spec_l1Cur_next_o_J2013).bind fun p115 =>
  (if (decide ((wI (a0.at_ + 1)) ≤ ((a0.code.length : Nat) : Int))) = true then
    some (p115.t3, (⟨a0.code, (wI (a0.at_ + 1)), (wU ((wU ((wU (a0.seed * 6364136223846793005)) + (wU p115.t3))) + 1442695040888963407))⟩ : l1CurT))
  else
    some ((wI (wU (bvAnd 64 (shR 64 (wU ((wU ((wU (a0.seed * 6364136223846793005)) + (wU p115.t3))) + 1442695040888963407)) 40) 255))), (⟨a0.code, (wI (a0.at_ + 1)), (wU ((wU ((wU (a0.seed * 6364136223846793005)) + (wU p115.t3))) + 1442695040888963407))⟩ : l1CurT))))
noncomputable def spec_l1Cur_pick_o (a0 : l1CurT) (a1 : Int) : Option (Int × l1CurT) :=
  (if (decide (a1 ≤ 1)) = true then
    some (0, a0)
  else
    ((spec_l1Cur_next_o a0).bind fun c116 =>
    (if (decide (a1 > 200)) = true then
      ((spec_l1Cur_next_o c116.2).bind fun c117 =>
      (guardO (a1 ≠ 0) <|
      some (((wI ((wI (c116.1 * 256)) + c117.1)).tmod a1), c117.2)))
    else
      (guardO (a1 ≠ 0) <|
      some ((c116.1.tmod a1), c116.2)))))
noncomputable def spec_l1Cur_one_o (a0 : l1CurT) (a1 : Int) : Option (Bool × l1CurT) :=
  ((spec_l1Cur_pick_o a0 a1).bind fun c122 =>
  some ((c122.1 == 0), c122.2))
structure CallT where
  Now : Int
  Fine : Bool
  deriving DecidableEq, Inhabited
structure spec_l1Cur_calls_o_J2011 where
  t5 : Int
  b0_0 : (List Int)
  b0_1 : Int
  b0_2 : Int
structure spec_l1Cur_calls_o_G1 where
  t4 : Int
  t5 : Int
  b0_0 : (List Int)
  b0_1 : Int
  b0_2 : Int
  c1 : (List CallT)
structure spec_l1Cur_calls_o_P1_0 where
  b0_0 : (List Int)
  b0_1 : Int
  b0_2 : Int
  c1 : (List CallT)
noncomputable def spec_l1Cur_calls_o_L1 (g126 : spec_l1Cur_calls_o_G1) : Option (spec_l1Cur_calls_o_G1 ⊕ spec_l1Cur_calls_o_P1_0) :=
  (if (decide (g126.t5 > 0)) = true then
    ((spec_l1Cur_one_o (⟨g126.b0_0, g126.b0_1, g126.b0_2⟩ : l1CurT) 3).bind fun c129 =>
    (guardO ((g126.c1.length + 1) * 16 ≤ 140737488355328) <|
    ((spec_l1Cur_pick_o c129.2 8).bind fun c130 =>
    some (.inl ⟨(wI (g126.t4 + c130.1)), (wI (g126.t5 - 1)), c130.2.code, c130.2.at_, c130.2.seed, (g126.c1 ++ ([(⟨g126.t4, c129.1⟩ : CallT)]))⟩))))
  else
    some (.inr (⟨g126.b0_0, g126.b0_1, g126.b0_2, g126.c1⟩)))
structure spec_l1Cur_calls_o_J4010 where
  t36 : Bool
  b0_0 : (List Int)
  b0_1 : Int
  b0_2 : Int
noncomputable def spec_l1Cur_calls_o (a0 : l1CurT) : Option ((List CallT) × l1CurT) :=
  ((spec_l1Cur_pick_o a0 5).bind fun c120 =>
  ((spec_l1Cur_pick_o c120.2 20).bind fun c121 =>
  ((((spec_l1Cur_one_o c121.2 20).bind fun c123 =>
    (if c123.1 = true then
      ((spec_l1Cur_pick_o c123.2 2).bind fun c124 =>
      some (⟨(wI (120 + c124.1)), c124.2.code, c124.2.at_, c124.2.seed⟩ : spec_l1Cur_calls_o_J2011))
    else
      some (⟨c121.1, c123.2.code, c123.2.at_, c123.2.seed⟩ : spec_l1Cur_calls_o_J2011))) : Option spec_l1Cur_calls_o_J2011).bind fun p125 =>
  ((loopF (spec_l1Cur_calls_o_L1) ⟨c120.1, p125.t5, p125.b0_0, p125.b0_1, p125.b0_2, []⟩).bind fun y131 =>
  (((if (decide (((y131.c1.length : Nat) : Int) > 1)) = true then
      ((spec_l1Cur_one_o (⟨y131.b0_0, y131.b0_1, y131.b0_2⟩ : l1CurT) 30).bind fun c132 =>
      some (⟨c132.1, c132.2.code, c132.2.at_, c132.2.seed⟩ : spec_l1Cur_calls_o_J4010))
    else
      some (⟨false, y131.b0_0, y131.b0_1, y131.b0_2⟩ : spec_l1Cur_calls_o_J4010)) : Option spec_l1Cur_calls_o_J4010).bind fun p133 =>
  (if p133.t36 = true then
    (guardO (1 < ((y131.c1.length : Nat) : Int)) <|
    (guardO (0 < ((y131.c1.length : Nat) : Int)) <|
    some ((y131.c1.set 0 (⟨(wI (((nth y131.c1 1).Now) + 1)), (nth y131.c1 0).Fine⟩ : CallT)), (⟨p133.b0_0, p133.b0_1, p133.b0_2⟩ : l1CurT))))
  else
    some (y131.c1, (⟨p133.b0_0, p133.b0_1, p133.b0_2⟩ : l1CurT))))))))
noncomputable def spec_DrawPlayBreaker (a0 : (List Int)) : Option (Int × Int × (List CallT)) :=
  ((spec_l1Cur_pick_o (⟨a0, 0, 0⟩ : l1CurT) 4).bind fun c118 =>
  ((spec_l1Cur_pick_o c118.2 30).bind fun c119 =>
  ((spec_l1Cur_calls_o c119.2).bind fun c136 =>
  some ((wI (1 + c118.1)), c119.1, c136.1))))
structure BreakerT where
  Limit : Int
  Cool : Int
  State : Int
  Fails : Int
  Opened : Int
  deriving DecidableEq, Inhabited
noncomputable def impl_isTime (a0 : Int) : Option Bool :=
  ((impl_in a0 0 1000000).bind fun c142 =>
  some c142)
structure impl_GoodBreaker_J4001 where
  t32 : Bool
noncomputable def impl_GoodBreaker (a0 : BreakerT) : Option Bool :=
  ((((impl_in a0.Limit 1 20).bind fun c138 =>
    (if (!c138) = true then
      some (⟨true⟩ : impl_GoodBreaker_J4001)
    else
      ((impl_in a0.Cool 1 10000).bind fun c139 =>
      (if (!c139) = true then
        some (⟨true⟩ : impl_GoodBreaker_J4001)
      else
        ((impl_in a0.State 0 2).bind fun c140 =>
        (if (!c140) = true then
          some (⟨true⟩ : impl_GoodBreaker_J4001)
        else
          ((impl_in a0.Fails 0 a0.Limit).bind fun c141 =>
          (if (!c141) = true then
            some (⟨true⟩ : impl_GoodBreaker_J4001)
          else
            ((impl_isTime a0.Opened).bind fun c143 =>
            some (⟨(!c143)⟩ : impl_GoodBreaker_J4001)))))))))) : Option impl_GoodBreaker_J4001).bind fun p144 =>
  (if p144.t32 = true then
    some false
  else
    (if (a0.State == 0) = true then
      (if (decide (a0.Fails < a0.Limit)) = true then
        some (a0.Opened == 0)
      else
        some false)
    else
      some (a0.Fails == a0.Limit))))
noncomputable def impl_NewBreaker (a0 : Int) (a1 : Int) : Option (BreakerT × Bool) :=
  ((impl_GoodBreaker (⟨a0, a1, 0, 0, 0⟩ : BreakerT)).bind fun c145 =>
  (if (!c145) = true then
    some ((⟨0, 0, 0, 0, 0⟩ : BreakerT), false)
  else
    some ((⟨a0, a1, 0, 0, 0⟩ : BreakerT), true)))
noncomputable def impl_Breaker_allows_r (a0 : BreakerT) (a1 : Int) : Option Bool :=
  (if (a0.State != 1) = true then
    some true
  else
    some (decide (a1 ≥ (wI (a0.Opened + a0.Cool)))))
noncomputable def impl_Breaker_call_o (a0 : BreakerT) (a1 : CallT) : Option (Bool × BreakerT) :=
  ((impl_Breaker_allows_r a0 a1.Now).bind fun c152 =>
  (if (!c152) = true then
    some (false, a0)
  else
    (if a1.Fine = true then
      some (true, (⟨a0.Limit, a0.Cool, 0, 0, 0⟩ : BreakerT))
    else
      (if (a0.State != 0) = true then
        some (true, (⟨a0.Limit, a0.Cool, 1, a0.Fails, a1.Now⟩ : BreakerT))
      else
        (if ((wI (a0.Fails + 1)) == a0.Limit) = true then
          some (true, (⟨a0.Limit, a0.Cool, 1, (wI (a0.Fails + 1)), a1.Now⟩ : BreakerT))
        else
          some (true, (⟨a0.Limit, a0.Cool, a0.State, (wI (a0.Fails + 1)), a0.Opened⟩ : BreakerT)))))))
structure impl_PlayBreaker_J4002 where
  t26 : Bool
structure impl_PlayBreaker_G1 where
  t31 : Int
  b1_0 : Int
  b1_1 : Int
  b1_2 : Int
  b1_3 : Int
  b1_4 : Int
  c2 : (List Bool)
structure impl_PlayBreaker_P1_1 where
  b1_0 : Int
  b1_1 : Int
  b1_2 : Int
  b1_3 : Int
  b1_4 : Int
  c2 : (List Bool)
structure impl_PlayBreaker_J14008 where
  t54 : Bool
noncomputable def impl_PlayBreaker_L1 (a2 : (List CallT)) (g148 : impl_PlayBreaker_G1) : Option (impl_PlayBreaker_G1 ⊕ (Unit ⊕ impl_PlayBreaker_P1_1)) :=
  (if (decide (g148.t31 < ((a2.length : Nat) : Int))) = true then
    (guardO (0 ≤ g148.t31 ∧ g148.t31 < (a2.length : Int)) <|
    ((((impl_isTime ((nth a2 g148.t31.toNat).Now)).bind fun c154 =>
      (if (!c154) = true then
        some (⟨true⟩ : impl_PlayBreaker_J14008)
      else
        (if (decide (g148.t31 > 0)) = true then
          (guardO (0 ≤ (wI (g148.t31 - 1)) ∧ (wI (g148.t31 - 1)) < (a2.length : Int)) <|
          some (⟨(decide (((nth a2 g148.t31.toNat).Now) < ((nth a2 ((wI (g148.t31 - 1)).toNat)).Now)))⟩ : impl_PlayBreaker_J14008))
        else
          some (⟨false⟩ : impl_PlayBreaker_J14008)))) : Option impl_PlayBreaker_J14008).bind fun p155 =>
    (if p155.t54 = true then
      some (.inr (.inl ()))
    else
      ((impl_Breaker_call_o (⟨g148.b1_0, g148.b1_1, g148.b1_2, g148.b1_3, g148.b1_4⟩ : BreakerT) (nth a2 g148.t31.toNat)).bind fun c156 =>
      (guardO ((g148.c2.length + 1) * 1 ≤ 140737488355328) <|
      some (.inl ⟨(wI (g148.t31 + 1)), c156.2.Limit, c156.2.Cool, c156.2.State, c156.2.Fails, c156.2.Opened, (g148.c2 ++ ([c156.1]))⟩))))))
  else
    some (.inr (.inr (⟨g148.b1_0, g148.b1_1, g148.b1_2, g148.b1_3, g148.b1_4, g148.c2⟩))))
noncomputable def impl_PlayBreaker (a0 : Int) (a1 : Int) (a2 : (List CallT)) : Option (BreakerT × (List Bool) × Bool) :=
  ((impl_NewBreaker a0 a1).bind fun c146 =>
  (((if (!c146.2) = true then
      some (⟨true⟩ : impl_PlayBreaker_J4002)
    else
      some (⟨(decide (((a2.length : Nat) : Int) > 120))⟩ : impl_PlayBreaker_J4002)) : Option impl_PlayBreaker_J4002).bind fun p147 =>
  (if p147.t26 = true then
    some ((⟨0, 0, 0, 0, 0⟩ : BreakerT), [], false)
  else
    ((loopF (impl_PlayBreaker_L1 a2) ⟨0, c146.1.Limit, c146.1.Cool, c146.1.State, c146.1.Fails, c146.1.Opened, []⟩).bind fun y157 =>
    match y157 with
    | .inl p158 =>
      some ((⟨0, 0, 0, 0, 0⟩ : BreakerT), [], false)
    | .inr p159 =>
      some ((⟨p159.b1_0, p159.b1_1, p159.b1_2, p159.b1_3, p159.b1_4⟩ : BreakerT), p159.c2, true)))))
structure spec_NewBreaker_J4001 where
  t13 : Bool
noncomputable def spec_NewBreaker (a0 : Int) (a1 : Int) : Option (BreakerT × Bool) :=
  ((((spec_l1In a0 1 20).bind fun c161 =>
    (if (!c161) = true then
      some (⟨true⟩ : spec_NewBreaker_J4001)
    else
      ((spec_l1In a1 1 10000).bind fun c162 =>
      some (⟨(!c162)⟩ : spec_NewBreaker_J4001)))) : Option spec_NewBreaker_J4001).bind fun p163 =>
  (if p163.t13 = true then
    some ((⟨0, 0, 0, 0, 0⟩ : BreakerT), false)
  else
    some ((⟨a0, a1, 0, 0, 0⟩ : BreakerT), true)))
structure spec_l10Call_J4001 where
  t19 : Bool
noncomputable def spec_l10Call (a0 : BreakerT) (a1 : CallT) : Option (BreakerT × Bool) :=
  (((if (a0.State == 1) = true then
      some (⟨(decide (a1.Now < (wI (a0.Opened + a0.Cool))))⟩ : spec_l10Call_J4001)
    else
      some (⟨false⟩ : spec_l10Call_J4001)) : Option spec_l10Call_J4001).bind fun p169 =>
  (if p169.t19 = true then
    some (a0, false)
  else
    (if a1.Fine = true then
      some ((⟨a0.Limit, a0.Cool, 0, 0, 0⟩ : BreakerT), true)
    else
      (if (a0.State != 0) = true then
        some ((⟨a0.Limit, a0.Cool, 1, a0.Fails, a1.Now⟩ : BreakerT), true)
      else
        (if ((wI (a0.Fails + 1)) == a0.Limit) = true then
          some ((⟨a0.Limit, a0.Cool, 1, (wI (a0.Fails + 1)), a1.Now⟩ : BreakerT), true)
        else
          some ((⟨a0.Limit, a0.Cool, a0.State, (wI (a0.Fails + 1)), a0.Opened⟩ : BreakerT), true))))))
structure spec_PlayBreaker_J4002 where
  t28 : Bool
structure spec_PlayBreaker_G1 where
  t32 : Int
  b1_0 : Int
  b1_1 : Int
  b1_2 : Int
  b1_3 : Int
  b1_4 : Int
  c2 : (List Bool)
structure spec_PlayBreaker_P1_1 where
  b1_0 : Int
  b1_1 : Int
  b1_2 : Int
  b1_3 : Int
  b1_4 : Int
  c2 : (List Bool)
structure spec_PlayBreaker_J14008 where
  t55 : Bool
noncomputable def spec_PlayBreaker_L1 (a2 : (List CallT)) (g166 : spec_PlayBreaker_G1) : Option (spec_PlayBreaker_G1 ⊕ (Unit ⊕ spec_PlayBreaker_P1_1)) :=
  (if (decide (g166.t32 < ((a2.length : Nat) : Int))) = true then
    (guardO (0 ≤ g166.t32 ∧ g166.t32 < (a2.length : Int)) <|
    ((((spec_l1In ((nth a2 g166.t32.toNat).Now) 0 1000000).bind fun c171 =>
      (if (!c171) = true then
        some (⟨true⟩ : spec_PlayBreaker_J14008)
      else
        (if (decide (g166.t32 > 0)) = true then
          (guardO (0 ≤ (wI (g166.t32 - 1)) ∧ (wI (g166.t32 - 1)) < (a2.length : Int)) <|
          some (⟨(decide (((nth a2 ((wI (g166.t32 - 1)).toNat)).Now) > ((nth a2 g166.t32.toNat).Now)))⟩ : spec_PlayBreaker_J14008))
        else
          some (⟨false⟩ : spec_PlayBreaker_J14008)))) : Option spec_PlayBreaker_J14008).bind fun p172 =>
    (if p172.t55 = true then
      some (.inr (.inl ()))
    else
      ((spec_l10Call (⟨g166.b1_0, g166.b1_1, g166.b1_2, g166.b1_3, g166.b1_4⟩ : BreakerT) (nth a2 g166.t32.toNat)).bind fun c173 =>
      (guardO ((g166.c2.length + 1) * 1 ≤ 140737488355328) <|
      some (.inl ⟨(wI (g166.t32 + 1)), c173.1.Limit, c173.1.Cool, c173.1.State, c173.1.Fails, c173.1.Opened, (g166.c2 ++ ([c173.2]))⟩))))))
  else
    some (.inr (.inr (⟨g166.b1_0, g166.b1_1, g166.b1_2, g166.b1_3, g166.b1_4, g166.c2⟩))))
noncomputable def spec_PlayBreaker (a0 : Int) (a1 : Int) (a2 : (List CallT)) : Option (BreakerT × (List Bool) × Bool) :=
  ((spec_NewBreaker a0 a1).bind fun c164 =>
  (((if (!c164.2) = true then
      some (⟨true⟩ : spec_PlayBreaker_J4002)
    else
      some (⟨(decide (((a2.length : Nat) : Int) > 120))⟩ : spec_PlayBreaker_J4002)) : Option spec_PlayBreaker_J4002).bind fun p165 =>
  (if p165.t28 = true then
    some ((⟨0, 0, 0, 0, 0⟩ : BreakerT), [], false)
  else
    ((loopF (spec_PlayBreaker_L1 a2) ⟨0, c164.1.Limit, c164.1.Cool, c164.1.State, c164.1.Fails, c164.1.Opened, []⟩).bind fun y174 =>
    match y174 with
    | .inl p175 =>
      some ((⟨0, 0, 0, 0, 0⟩ : BreakerT), [], false)
    | .inr p176 =>
      some ((⟨p176.b1_0, p176.b1_1, p176.b1_2, p176.b1_3, p176.b1_4⟩ : BreakerT), p176.c2, true)))))
structure laws_sameBools_G1 where
  t13 : Int
noncomputable def laws_sameBools_L1 (a0 : (List Bool)) (a1 : (List Bool)) (g178 : laws_sameBools_G1) : Option (laws_sameBools_G1 ⊕ (Unit ⊕ Unit)) :=
  (if (decide (g178.t13 < ((a0.length : Nat) : Int))) = true then
    (guardO (0 ≤ g178.t13 ∧ g178.t13 < (a0.length : Int)) <|
    (guardO (0 ≤ g178.t13 ∧ g178.t13 < (a1.length : Int)) <|
    (if (!((nth a0 g178.t13.toNat) == (nth a1 g178.t13.toNat))) = true then
      some (.inr (.inl ()))
    else
      some (.inl ⟨(wI (g178.t13 + 1))⟩))))
  else
    some (.inr (.inr ())))
noncomputable def laws_sameBools (a0 : (List Bool)) (a1 : (List Bool)) : Option Bool :=
  (if (((a0.length : Nat) : Int) != ((a1.length : Nat) : Int)) = true then
    some false
  else
    ((loopF (laws_sameBools_L1 a0 a1) ⟨0⟩).bind fun y179 =>
    match y179 with
    | .inl p180 =>
      some false
    | .inr p181 =>
      some true))
structure spec_l1Cur_breaker_o_J2027 where
  b2_0 : Int
  b2_1 : Int
  b2_2 : Int
  b2_3 : Int
  b2_4 : Int
structure spec_l1Cur_breaker_o_J2038 where
  b0_0 : (List Int)
  b0_1 : Int
  b0_2 : Int
  b2_2 : Int
structure spec_l1Cur_breaker_o_J4007 where
  t38 : Bool
  b0_0 : (List Int)
  b0_1 : Int
  b0_2 : Int
structure spec_l1Cur_breaker_o_J12027 where
  b2_0 : Int
  b2_1 : Int
  b2_2 : Int
  b2_3 : Int
  b2_4 : Int
structure spec_l1Cur_breaker_o_J12038 where
  b0_0 : (List Int)
  b0_1 : Int
  b0_2 : Int
  b2_2 : Int
structure spec_l1Cur_breaker_o_J14007 where
  t38 : Bool
  b0_0 : (List Int)
  b0_1 : Int
  b0_2 : Int
noncomputable def spec_l1Cur_breaker_o (a0 : l1CurT) : Option (BreakerT × l1CurT) :=
  ((spec_l1Cur_calls_o a0).bind fun c199 =>
  (if (decide (((c199.1.length : Nat) : Int) > 120)) = true then
    (guardO (0 ≤ 0 ∧ 0 ≤ 20 ∧ 20 ≤ ((c199.1.length : Nat) : Int)) <|
    ((spec_l1Cur_pick_o c199.2 4).bind fun c200 =>
    ((spec_l1Cur_pick_o c200.2 30).bind fun c201 =>
    ((spec_PlayBreaker (wI (1 + c200.1)) (wI (1 + c201.1)) (c199.1.take 20)).bind fun c202 =>
    (((if (!c202.2.2) = true then
        ((spec_NewBreaker 2 5).bind fun c203 =>
        some (⟨c203.1.Limit, c203.1.Cool, c203.1.State, c203.1.Fails, c203.1.Opened⟩ : spec_l1Cur_breaker_o_J2027))
      else
        some (⟨c202.1.Limit, c202.1.Cool, c202.1.State, c202.1.Fails, c202.1.Opened⟩ : spec_l1Cur_breaker_o_J2027)) : Option spec_l1Cur_breaker_o_J2027).bind fun p204 =>
    (((((if (p204.b2_2 == 1) = true then
          ((spec_l1Cur_one_o c201.2 6).bind fun c205 =>
          some (⟨c205.1, c205.2.code, c205.2.at_, c205.2.seed⟩ : spec_l1Cur_breaker_o_J4007))
        else
          some (⟨false, c201.2.code, c201.2.at_, c201.2.seed⟩ : spec_l1Cur_breaker_o_J4007)) : Option spec_l1Cur_breaker_o_J4007).bind fun p206 =>
      (if p206.t38 = true then
        some (⟨p206.b0_0, p206.b0_1, p206.b0_2, 2⟩ : spec_l1Cur_breaker_o_J2038)
      else
        some (⟨p206.b0_0, p206.b0_1, p206.b0_2, p204.b2_2⟩ : spec_l1Cur_breaker_o_J2038))) : Option spec_l1Cur_breaker_o_J2038).bind fun p207 =>
    ((spec_l1Cur_one_o (⟨p207.b0_0, p207.b0_1, p207.b0_2⟩ : l1CurT) 30).bind fun c208 =>
    (if c208.1 = true then
      some ((⟨p204.b2_0, p204.b2_1, p207.b2_2, (wI (p204.b2_3 + 1)), p204.b2_4⟩ : BreakerT), c208.2)
    else
      some ((⟨p204.b2_0, p204.b2_1, p207.b2_2, p204.b2_3, p204.b2_4⟩ : BreakerT), c208.2)))))))))
  else
    ((spec_l1Cur_pick_o c199.2 4).bind fun c209 =>
    ((spec_l1Cur_pick_o c209.2 30).bind fun c210 =>
    ((spec_PlayBreaker (wI (1 + c209.1)) (wI (1 + c210.1)) c199.1).bind fun c211 =>
    (((if (!c211.2.2) = true then
        ((spec_NewBreaker 2 5).bind fun c212 =>
        some (⟨c212.1.Limit, c212.1.Cool, c212.1.State, c212.1.Fails, c212.1.Opened⟩ : spec_l1Cur_breaker_o_J12027))
      else
        some (⟨c211.1.Limit, c211.1.Cool, c211.1.State, c211.1.Fails, c211.1.Opened⟩ : spec_l1Cur_breaker_o_J12027)) : Option spec_l1Cur_breaker_o_J12027).bind fun p213 =>
    (((((if (p213.b2_2 == 1) = true then
          ((spec_l1Cur_one_o c210.2 6).bind fun c214 =>
          some (⟨c214.1, c214.2.code, c214.2.at_, c214.2.seed⟩ : spec_l1Cur_breaker_o_J14007))
        else
          some (⟨false, c210.2.code, c210.2.at_, c210.2.seed⟩ : spec_l1Cur_breaker_o_J14007)) : Option spec_l1Cur_breaker_o_J14007).bind fun p215 =>
      (if p215.t38 = true then
        some (⟨p215.b0_0, p215.b0_1, p215.b0_2, 2⟩ : spec_l1Cur_breaker_o_J12038)
      else
        some (⟨p215.b0_0, p215.b0_1, p215.b0_2, p213.b2_2⟩ : spec_l1Cur_breaker_o_J12038))) : Option spec_l1Cur_breaker_o_J12038).bind fun p216 =>
    ((spec_l1Cur_one_o (⟨p216.b0_0, p216.b0_1, p216.b0_2⟩ : l1CurT) 30).bind fun c217 =>
    (if c217.1 = true then
      some ((⟨p213.b2_0, p213.b2_1, p216.b2_2, (wI (p213.b2_3 + 1)), p213.b2_4⟩ : BreakerT), c217.2)
    else
      some ((⟨p213.b2_0, p213.b2_1, p216.b2_2, p213.b2_3, p213.b2_4⟩ : BreakerT), c217.2))))))))))
noncomputable def spec_DrawCallBreaker (a0 : (List Int)) : Option (BreakerT × CallT) :=
  ((spec_l1Cur_breaker_o (⟨a0, 0, 0⟩ : l1CurT)).bind fun c218 =>
  ((spec_l1Cur_pick_o c218.2 60).bind fun c219 =>
  ((spec_l1Cur_pick_o c219.2 2).bind fun c220 =>
  ((spec_l1Cur_one_o c220.2 2).bind fun c221 =>
  some (c218.1, (⟨(wI ((wI (c218.1.Opened + c219.1)) - c220.1)), c221.1⟩ : CallT))))))
structure impl_CallBreaker_J4001 where
  t16 : Bool
noncomputable def impl_CallBreaker (a0 : BreakerT) (a1 : CallT) : Option (BreakerT × Bool × Bool) :=
  ((((impl_GoodBreaker a0).bind fun c223 =>
    (if (!c223) = true then
      some (⟨true⟩ : impl_CallBreaker_J4001)
    else
      ((impl_isTime a1.Now).bind fun c224 =>
      some (⟨(!c224)⟩ : impl_CallBreaker_J4001)))) : Option impl_CallBreaker_J4001).bind fun p225 =>
  (if p225.t16 = true then
    some ((⟨0, 0, 0, 0, 0⟩ : BreakerT), false, false)
  else
    ((impl_Breaker_call_o a0 a1).bind fun c226 =>
    some (c226.2, c226.1, true))))
structure spec_GoodBreaker_J4001 where
  t24 : Bool
noncomputable def spec_GoodBreaker (a0 : BreakerT) : Option Bool :=
  ((((spec_l1In a0.Limit 1 20).bind fun c228 =>
    (if (!c228) = true then
      some (⟨true⟩ : spec_GoodBreaker_J4001)
    else
      ((spec_l1In a0.Cool 1 10000).bind fun c229 =>
      (if (!c229) = true then
        some (⟨true⟩ : spec_GoodBreaker_J4001)
      else
        ((spec_l1In a0.State 0 2).bind fun c230 =>
        (if (!c230) = true then
          some (⟨true⟩ : spec_GoodBreaker_J4001)
        else
          ((spec_l1In a0.Opened 0 1000000).bind fun c231 =>
          some (⟨(!c231)⟩ : spec_GoodBreaker_J4001)))))))) : Option spec_GoodBreaker_J4001).bind fun p232 =>
  (if p232.t24 = true then
    some false
  else
    (if (a0.State == 0) = true then
      ((spec_l1In a0.Fails 0 (wI (a0.Limit - 1))).bind fun c233 =>
      (if c233 = true then
        some (a0.Opened == 0)
      else
        some false))
    else
      some (a0.Fails == a0.Limit))))
structure spec_CallBreaker_J4001 where
  t17 : Bool
noncomputable def spec_CallBreaker (a0 : BreakerT) (a1 : CallT) : Option (BreakerT × Bool × Bool) :=
  ((((spec_GoodBreaker a0).bind fun c234 =>
    (if (!c234) = true then
      some (⟨true⟩ : spec_CallBreaker_J4001)
    else
      ((spec_l1In a1.Now 0 1000000).bind fun c235 =>
      some (⟨(!c235)⟩ : spec_CallBreaker_J4001)))) : Option spec_CallBreaker_J4001).bind fun p236 =>
  (if p236.t17 = true then
    some ((⟨0, 0, 0, 0, 0⟩ : BreakerT), false, false)
  else
    ((spec_l10Call a0 a1).bind fun c237 =>
    some (c237.1, c237.2, true))))
structure impl_AllowsAt_J4001 where
  t13 : Bool
noncomputable def impl_AllowsAt (a0 : BreakerT) (a1 : Int) : Option (Bool × Bool) :=
  ((((impl_GoodBreaker a0).bind fun c239 =>
    (if (!c239) = true then
      some (⟨true⟩ : impl_AllowsAt_J4001)
    else
      ((impl_isTime a1).bind fun c240 =>
      some (⟨(!c240)⟩ : impl_AllowsAt_J4001)))) : Option impl_AllowsAt_J4001).bind fun p241 =>
  (if p241.t13 = true then
    some (false, false)
  else
    ((impl_Breaker_allows_r a0 a1).bind fun c242 =>
    some (c242, true))))
structure laws_FnBreaker_J4006 where
  t70 : Bool
structure laws_FnBreaker_G1 where
  t14 : Int
  t15 : Int
  t74 : Int
structure laws_FnBreaker_P1_1 where
  t15 : Int
structure laws_FnBreaker_J14014 where
  t18 : Bool
structure laws_FnBreaker_J14022 where
  t107 : Bool
noncomputable def laws_FnBreaker_L1 (c137 : (Int × Int × (List CallT))) (c160 : (BreakerT × (List Bool) × Bool)) (g184 : laws_FnBreaker_G1) : Option (laws_FnBreaker_G1 ⊕ (Unit ⊕ laws_FnBreaker_P1_1)) :=
  (if (decide (g184.t74 < ((c137.2.2.length : Nat) : Int))) = true then
    (guardO (0 ≤ g184.t74 ∧ g184.t74 < ((c137.2.2.length : Nat) : Int)) <|
    (((if (decide (g184.t15 < 0)) = true then
        some (⟨true⟩ : laws_FnBreaker_J14014)
      else
        some (⟨(decide (((nth c137.2.2 g184.t74.toNat).Now) ≥ (wI (g184.t15 + c137.2.1))))⟩ : laws_FnBreaker_J14014)) : Option laws_FnBreaker_J14014).bind fun p187 =>
    (guardO (0 ≤ g184.t74 ∧ g184.t74 < ((c160.2.1.length : Nat) : Int)) <|
    (if (!((nth c160.2.1 g184.t74.toNat) == p187.t18)) = true then
      some (.inr (.inl ()))
    else
      (if (!p187.t18) = true then
        some (.inl ⟨g184.t14, g184.t15, (wI (g184.t74 + 1))⟩)
      else
        (if (nth c137.2.2 g184.t74.toNat).Fine = true then
          some (.inl ⟨0, (-1), (wI (g184.t74 + 1))⟩)
        else
          (((if (decide (g184.t15 ≥ 0)) = true then
              some (⟨true⟩ : laws_FnBreaker_J14022)
            else
              some (⟨((wI (g184.t14 + 1)) == c137.1)⟩ : laws_FnBreaker_J14022)) : Option laws_FnBreaker_J14022).bind fun p188 =>
          (if p188.t107 = true then
            some (.inl ⟨c137.1, (nth c137.2.2 g184.t74.toNat).Now, (wI (g184.t74 + 1))⟩)
          else
            some (.inl ⟨(wI (g184.t14 + 1)), g184.t15, (wI (g184.t74 + 1))⟩)))))))))
  else
    some (.inr (.inr (⟨g184.t15⟩))))
structure laws_FnBreaker_J4026 where
  t122 : Bool
structure laws_FnBreaker_J4032 where
  t166 : Bool
noncomputable def laws_FnBreaker (a0 : (List Int)) (a1 : (List Int)) : Option Bool :=
  (if (decide ((wI (((a0.length : Nat) : Int) + ((a1.length : Nat) : Int))) > 1048576)) = true then
    some true
  else
    ((spec_DrawPlayBreaker a0).bind fun c137 =>
    ((impl_PlayBreaker c137.1 c137.2.1 c137.2.2).bind fun c160 =>
    ((spec_PlayBreaker c137.1 c137.2.1 c137.2.2).bind fun c177 =>
    (((if (!(c160.2.2 == c177.2.2)) = true then
        some (⟨true⟩ : laws_FnBreaker_J4006)
      else
        (if (!((c160.1.Limit == c177.1.Limit) && ((c160.1.Cool == c177.1.Cool) && ((c160.1.State == c177.1.State) && ((c160.1.Fails == c177.1.Fails) && (c160.1.Opened == c177.1.Opened)))))) = true then
          some (⟨true⟩ : laws_FnBreaker_J4006)
        else
          ((laws_sameBools c160.2.1 c177.2.1).bind fun c182 =>
          some (⟨(!c182)⟩ : laws_FnBreaker_J4006)))) : Option laws_FnBreaker_J4006).bind fun p183 =>
    (if p183.t70 = true then
      some false
    else
      (((if c160.2.2 = true then
          ((loopF (laws_FnBreaker_L1 c137 c160) ⟨0, (-1), 0⟩).bind fun y189 =>
          match y189 with
          | .inl p190 =>
            some (.inr false)
          | .inr p191 =>
            (((if (!((c160.1.State == 1) == (decide (p191.t15 ≥ 0)))) = true then
                some (⟨true⟩ : laws_FnBreaker_J4026)
              else
                ((impl_GoodBreaker c160.1).bind fun c192 =>
                some (⟨(!c192)⟩ : laws_FnBreaker_J4026))) : Option laws_FnBreaker_J4026).bind fun p193 =>
            (if p193.t122 = true then
              some (.inr false)
            else
              some (.inl (() : Unit)))))
        else
          some (.inl (() : Unit))) : Option (Unit ⊕ Bool)).bind fun q => match q with
      | .inl p196 =>
        ((spec_DrawCallBreaker a1).bind fun c222 =>
        ((impl_CallBreaker c222.1 c222.2).bind fun c227 =>
        ((spec_CallBreaker c222.1 c222.2).bind fun c238 =>
        ((impl_AllowsAt c222.1 c222.2.Now).bind fun c243 =>
        (((if (!(c227.2.2 == c238.2.2)) = true then
            some (⟨true⟩ : laws_FnBreaker_J4032)
          else
            (if (!((c227.1.Limit == c238.1.Limit) && ((c227.1.Cool == c238.1.Cool) && ((c227.1.State == c238.1.State) && ((c227.1.Fails == c238.1.Fails) && (c227.1.Opened == c238.1.Opened)))))) = true then
              some (⟨true⟩ : laws_FnBreaker_J4032)
            else
              (if (!(c227.2.1 == c238.2.1)) = true then
                some (⟨true⟩ : laws_FnBreaker_J4032)
              else
                some (⟨(!(c243.2 == c238.2.2))⟩ : laws_FnBreaker_J4032)))) : Option laws_FnBreaker_J4032).bind fun p244 =>
        (if p244.t166 = true then
          some false
        else
          (if (!c227.2.2) = true then
            some true
          else
            (if (c227.2.1 == c243.1) = true then
              ((impl_GoodBreaker c227.1).bind fun c245 =>
              (if c245 = true then
                (if c227.2.1 = true then
                  some true
                else
                  some ((c227.1.Limit == c222.1.Limit) && ((c227.1.Cool == c222.1.Cool) && ((c227.1.State == c222.1.State) && ((c227.1.Fails == c222.1.Fails) && (c227.1.Opened == c222.1.Opened))))))
              else
                some false))
            else
              some false))))))))
      | .inr v => some v)))))))
end Go.TL
namespace Go.TL
structure LineStepT where
  Kind : Int
  K : Int
  Text : ByteArray
  deriving DecidableEq, Inhabited
noncomputable def laws_szLineStep (a0 : LineStepT) (a1 : Int) : Option Int :=
  (if (decide ((wI (a1 - (a0.Text.size : Int))) < 0)) = true then
    some (-1)
  else
    some (wI (a1 - (a0.Text.size : Int))))
noncomputable def laws_toLineStep (a0 : LineStepT) : Option LineStepT :=
  some a0
noncomputable def spec_l14Own (a0 : QueueT) : Option QueueT :=
  (guardO (a0.Sent.length * 16 ≤ 140737488355328) <|
  (guardO (a0.Got.length * 16 ≤ 140737488355328) <|
  (guardO (a0.Line.length * 32 ≤ 140737488355328) <|
  some (⟨a0.Window, (([]) ++ a0.Sent), a0.Base, (([]) ++ a0.Got), (([]) ++ a0.Line)⟩ : QueueT))))
noncomputable def spec_l14Put_www (a0 : QueueT) (a1 : PacketT) : Option (QueueT × Bool) :=
  (if (((a0.Line.length : Nat) : Int) == 40) = true then
    some (a0, false)
  else
    (guardO ((a0.Line.length + 1) * 32 ≤ 140737488355328) <|
    some ((⟨a0.Window, a0.Sent, a0.Base, a0.Got, (a0.Line ++ ([a1]))⟩ : QueueT), true)))
noncomputable def spec_l14Without (a0 : (List PacketT)) (a1 : Int) : Option (List PacketT) :=
  (guardO (0 ≤ a1 ∧ a1 ≤ (a0.length : Int)) <|
  (guardO (((a0.take a1.toNat).length) * 32 ≤ 140737488355328) <|
  (guardO (0 ≤ (wI (a1 + 1)) ∧ (wI (a1 + 1)) ≤ (a0.length : Int)) <|
  (guardO (((a0.take a1.toNat).length + (a0.drop ((wI (a1 + 1)).toNat)).length) * 32 ≤ 140737488355328) <|
  some ((([]) ++ (a0.take a1.toNat)) ++ (a0.drop ((wI (a1 + 1)).toNat)))))))
structure spec_l14Step_www_J4003 where
  t20 : Bool
structure spec_l14Step_www_J4008 where
  t51 : Bool
structure spec_l14Step_www_J2091 where
  t91 : Bool
noncomputable def spec_l14Step_www (a0 : QueueT) (a1 : LineStepT) : Option (QueueT × Bool) :=
  (if (a1.Kind == 1) = true then
    (((if (((a0.Sent.length : Nat) : Int) == 40) = true then
        some (⟨true⟩ : spec_l14Step_www_J4003)
      else
        some (⟨(decide ((a1.Text.size : Int) > 12))⟩ : spec_l14Step_www_J4003)) : Option spec_l14Step_www_J4003).bind fun p72 =>
    (if p72.t20 = true then
      some (a0, false)
    else
      (guardO ((a0.Sent.length + 1) * 16 ≤ 140737488355328) <|
      some ((⟨a0.Window, (a0.Sent ++ ([a1.Text])), a0.Base, a0.Got, a0.Line⟩ : QueueT), true))))
  else
    (if (a1.Kind == 2) = true then
      ((((spec_l1In a1.K a0.Base (wI ((wI (a0.Base + a0.Window)) - 1))).bind fun c73 =>
        (if (!c73) = true then
          some (⟨true⟩ : spec_l14Step_www_J4008)
        else
          some (⟨(decide (a1.K ≥ ((a0.Sent.length : Nat) : Int)))⟩ : spec_l14Step_www_J4008))) : Option spec_l14Step_www_J4008).bind fun p74 =>
      (if p74.t51 = true then
        some (a0, false)
      else
        (guardO (0 ≤ a1.K ∧ a1.K < ((a0.Sent.length : Nat) : Int)) <|
        ((spec_l14Put_www a0 (⟨false, a1.K, (nth a0.Sent a1.K.toNat)⟩ : PacketT)).bind fun c75 =>
        some ((⟨c75.1.Window, a0.Sent, c75.1.Base, a0.Got, c75.1.Line⟩ : QueueT), c75.2)))))
    else
      ((spec_l1In a1.K 0 (wI (((a0.Line.length : Nat) : Int) - 1))).bind fun c76 =>
      (if (!c76) = true then
        some (a0, false)
      else
        (guardO (0 ≤ a1.K ∧ a1.K < ((a0.Line.length : Nat) : Int)) <|
        (if (a1.Kind == 5) = true then
          ((spec_l14Put_www a0 (nth a0.Line a1.K.toNat)).bind fun c77 =>
          some ((⟨c77.1.Window, a0.Sent, c77.1.Base, a0.Got, c77.1.Line⟩ : QueueT), c77.2))
        else
          (((if (a1.Kind == 3) = true then
              some (⟨true⟩ : spec_l14Step_www_J2091)
            else
              some (⟨(a1.Kind == 4)⟩ : spec_l14Step_www_J2091)) : Option spec_l14Step_www_J2091).bind fun p78 =>
          (if p78.t91 = true then
            ((spec_l14Without a0.Line a1.K).bind fun c79 =>
            (if (a1.Kind == 4) = true then
              some ((⟨a0.Window, a0.Sent, a0.Base, a0.Got, c79⟩ : QueueT), true)
            else
              (if (nth a0.Line a1.K.toNat).Ack = true then
                (if (decide (((nth a0.Line a1.K.toNat).No) > a0.Base)) = true then
                  some ((⟨a0.Window, a0.Sent, (nth a0.Line a1.K.toNat).No, a0.Got, c79⟩ : QueueT), true)
                else
                  some ((⟨a0.Window, a0.Sent, a0.Base, a0.Got, c79⟩ : QueueT), true))
              else
                (if (((nth a0.Line a1.K.toNat).No) == ((a0.Got.length : Nat) : Int)) = true then
                  (guardO ((a0.Got.length + 1) * 16 ≤ 140737488355328) <|
                  ((spec_l14Put_www (⟨a0.Window, a0.Sent, a0.Base, (a0.Got ++ ([(nth a0.Line a1.K.toNat).Text])), c79⟩ : QueueT) (⟨true, (((a0.Got.length + 1) : Nat) : Int), ByteArray.empty⟩ : PacketT)).bind fun c80 =>
                  some ((⟨c80.1.Window, a0.Sent, c80.1.Base, (a0.Got ++ ([(nth a0.Line a1.K.toNat).Text])), c80.1.Line⟩ : QueueT), true)))
                else
                  ((spec_l14Put_www (⟨a0.Window, a0.Sent, a0.Base, a0.Got, c79⟩ : QueueT) (⟨true, ((a0.Got.length : Nat) : Int), ByteArray.empty⟩ : PacketT)).bind fun c81 =>
                  some ((⟨c81.1.Window, a0.Sent, c81.1.Base, a0.Got, c81.1.Line⟩ : QueueT), true))))))
          else
            some (a0, false)))))))))
noncomputable def spec_StepQueue (a0 : QueueT) (a1 : LineStepT) : Option (QueueT × Bool) :=
  ((spec_GoodQueue a0).bind fun c60 =>
  (if (!c60) = true then
    some ((⟨0, [], 0, [], []⟩ : QueueT), false)
  else
    ((spec_l14Own a0).bind fun c61 =>
    ((spec_l14Step_www c61 a1).bind fun c82 =>
    (if (!c82.2) = true then
      some ((⟨0, [], 0, [], []⟩ : QueueT), false)
    else
      some (c82.1, true))))))
noncomputable def slices_Clone_string (a0 : (List ByteArray)) : Option (List ByteArray) :=
  guardO (a0.length * 16 ≤ 140737488355328) (some a0)
noncomputable def slices_Clone_impl_Packet (a0 : (List PacketT)) : Option (List PacketT) :=
  guardO (a0.length * 32 ≤ 140737488355328) (some a0)
noncomputable def impl_cloneQueue (a0 : QueueT) : Option QueueT :=
  ((slices_Clone_string a0.Sent).bind fun c115 =>
  ((slices_Clone_string a0.Got).bind fun c116 =>
  ((slices_Clone_impl_Packet a0.Line).bind fun c117 =>
  some (⟨a0.Window, c115, a0.Base, c116, c117⟩ : QueueT))))
noncomputable def impl_Queue_put_o (a0 : QueueT) (a1 : PacketT) : Option (Bool × QueueT) :=
  (if (((a0.Line.length : Nat) : Int) == 40) = true then
    some (false, a0)
  else
    (guardO ((a0.Line.length + 1) * 32 ≤ 140737488355328) <|
    some (true, (⟨a0.Window, a0.Sent, a0.Base, a0.Got, (a0.Line ++ ([a1]))⟩ : QueueT))))
noncomputable def impl_Queue_send_o (a0 : QueueT) (a1 : Int) : Option (Bool × QueueT) :=
  ((impl_in a1 a0.Base (wI ((min (wI (a0.Base + a0.Window)) ((a0.Sent.length : Nat) : Int)) - 1))).bind fun c120 =>
  (if c120 = true then
    (guardO (0 ≤ a1 ∧ a1 < ((a0.Sent.length : Nat) : Int)) <|
    ((impl_Queue_put_o a0 (⟨false, a1, (nth a0.Sent a1.toNat)⟩ : PacketT)).bind fun c121 =>
    some (c121.1, (⟨c121.2.Window, a0.Sent, c121.2.Base, a0.Got, c121.2.Line⟩ : QueueT))))
  else
    some (false, a0)))
noncomputable def slices_Delete_impl_Packet_w (a0 : (List PacketT)) (a1 : Int) (a2 : Int) : Option (List PacketT) :=
  guardO (0 ≤ a1 ∧ a1 ≤ a2 ∧ a2 ≤ (a0.length : Int) ∧ a0.length * 32 ≤ 140737488355328) (some (a0.take a1.toNat ++ a0.drop a2.toNat))
noncomputable def impl_Queue_take_o (a0 : QueueT) (a1 : Int) : Option QueueT :=
  (guardO (0 ≤ a1 ∧ a1 < ((a0.Line.length : Nat) : Int)) <|
  ((slices_Delete_impl_Packet_w a0.Line a1 (wI (a1 + 1))).bind fun c126 =>
  (if (nth a0.Line a1.toNat).Ack = true then
    some (⟨a0.Window, a0.Sent, (max a0.Base ((nth a0.Line a1.toNat).No)), a0.Got, c126⟩ : QueueT)
  else
    (if (((nth a0.Line a1.toNat).No) == ((a0.Got.length : Nat) : Int)) = true then
      (guardO ((a0.Got.length + 1) * 16 ≤ 140737488355328) <|
      ((impl_Queue_put_o (⟨a0.Window, a0.Sent, a0.Base, (a0.Got ++ ([(nth a0.Line a1.toNat).Text])), c126⟩ : QueueT) (⟨true, (((a0.Got.length + 1) : Nat) : Int), ByteArray.empty⟩ : PacketT)).bind fun c127 =>
      some (⟨c127.2.Window, a0.Sent, c127.2.Base, (a0.Got ++ ([(nth a0.Line a1.toNat).Text])), c127.2.Line⟩ : QueueT)))
    else
      ((impl_Queue_put_o (⟨a0.Window, a0.Sent, a0.Base, a0.Got, c126⟩ : QueueT) (⟨true, ((a0.Got.length : Nat) : Int), ByteArray.empty⟩ : PacketT)).bind fun c128 =>
      some (⟨c128.2.Window, a0.Sent, c128.2.Base, a0.Got, c128.2.Line⟩ : QueueT))))))
structure impl_Queue_step_o_J4003 where
  t20 : Bool
structure impl_Queue_step_o_J4009 where
  t53 : Bool
noncomputable def impl_Queue_step_o (a0 : QueueT) (a1 : LineStepT) : Option (Bool × QueueT) :=
  (if (a1.Kind == 1) = true then
    (((if (((a0.Sent.length : Nat) : Int) == 40) = true then
        some (⟨true⟩ : impl_Queue_step_o_J4003)
      else
        some (⟨(decide ((a1.Text.size : Int) > 12))⟩ : impl_Queue_step_o_J4003)) : Option impl_Queue_step_o_J4003).bind fun p119 =>
    (if p119.t20 = true then
      some (false, a0)
    else
      (guardO ((a0.Sent.length + 1) * 16 ≤ 140737488355328) <|
      some (true, (⟨a0.Window, (a0.Sent ++ ([a1.Text])), a0.Base, a0.Got, a0.Line⟩ : QueueT)))))
  else
    (if (a1.Kind == 2) = true then
      ((impl_Queue_send_o a0 a1.K).bind fun c122 =>
      some (c122.1, (⟨c122.2.Window, a0.Sent, c122.2.Base, a0.Got, c122.2.Line⟩ : QueueT)))
    else
      ((((impl_in a1.Kind 3 5).bind fun c123 =>
        (if (!c123) = true then
          some (⟨true⟩ : impl_Queue_step_o_J4009)
        else
          ((impl_in a1.K 0 (wI (((a0.Line.length : Nat) : Int) - 1))).bind fun c124 =>
          some (⟨(!c124)⟩ : impl_Queue_step_o_J4009)))) : Option impl_Queue_step_o_J4009).bind fun p125 =>
      (if p125.t53 = true then
        some (false, a0)
      else
        (if (a1.Kind == 3) = true then
          ((impl_Queue_take_o a0 a1.K).bind fun c129 =>
          some (true, (⟨c129.Window, a0.Sent, c129.Base, c129.Got, c129.Line⟩ : QueueT)))
        else
          (if (a1.Kind == 4) = true then
            ((slices_Delete_impl_Packet_w a0.Line a1.K (wI (a1.K + 1))).bind fun c130 =>
            some (true, (⟨a0.Window, a0.Sent, a0.Base, a0.Got, c130⟩ : QueueT)))
          else
            (guardO (0 ≤ a1.K ∧ a1.K < ((a0.Line.length : Nat) : Int)) <|
            ((impl_Queue_put_o a0 (nth a0.Line a1.K.toNat)).bind fun c131 =>
            some (c131.1, (⟨c131.2.Window, a0.Sent, c131.2.Base, a0.Got, c131.2.Line⟩ : QueueT))))))))))
noncomputable def impl_StepQueue (a0 : QueueT) (a1 : LineStepT) : Option (QueueT × Bool) :=
  ((impl_GoodQueue a0).bind fun c114 =>
  (if (!c114) = true then
    some ((⟨0, [], 0, [], []⟩ : QueueT), false)
  else
    ((impl_cloneQueue a0).bind fun c118 =>
    ((impl_Queue_step_o c118 a1).bind fun c132 =>
    (if (!c132.1) = true then
      some ((⟨0, [], 0, [], []⟩ : QueueT), false)
    else
      some (c132.2, true))))))
structure laws_markText_G1 where
  t0 : Int
  t3 : ByteArray
structure laws_markText_P1_0 where
  t3 : ByteArray
noncomputable def laws_markText_L1 (g152 : laws_markText_G1) : Option (laws_markText_G1 ⊕ laws_markText_P1_0) :=
  (if (decide (g152.t0 > 0)) = true then
    (guardO ((bstr ([(wB (wI (48 + (g152.t0.tmod 10))))])).size + g152.t3.size ≤ 9223372036854775807) <|
    some (.inl ⟨(wI (g152.t0.tdiv 10)), ((bstr ([(wB (wI (48 + (g152.t0.tmod 10))))])) ++ g152.t3)⟩))
  else
    some (.inr (⟨g152.t3⟩)))
noncomputable def laws_markText (a0 : Int) : Option ByteArray :=
  (if (decide (a0 ≤ 0)) = true then
    some (⟨#[109, 48]⟩ : ByteArray)
  else
    ((loopF (laws_markText_L1) ⟨a0, ByteArray.empty⟩).bind fun y153 =>
    (guardO ((⟨#[109]⟩ : ByteArray).size + y153.t3.size ≤ 9223372036854775807) <|
    some ((⟨#[109]⟩ : ByteArray) ++ y153.t3))))
structure laws_markStringS_w_G1 where
  t1 : Int
  t5 : Int
  c0 : (List ByteArray)
structure laws_markStringS_w_P1_0 where
  t1 : Int
  c0 : (List ByteArray)
noncomputable def laws_markStringS_w_L1 (g155 : laws_markStringS_w_G1) : Option (laws_markStringS_w_G1 ⊕ laws_markStringS_w_P1_0) :=
  (if (decide (g155.t5 < ((g155.c0.length : Nat) : Int))) = true then
    ((laws_markText g155.t1).bind fun c157 =>
    (guardO (0 ≤ g155.t5 ∧ g155.t5 < ((g155.c0.length : Nat) : Int)) <|
    some (.inl ⟨(wI (g155.t1 + 1)), (wI (g155.t5 + 1)), (g155.c0.set g155.t5.toNat c157)⟩)))
  else
    some (.inr (⟨g155.t1, g155.c0⟩)))
noncomputable def laws_markStringS_w (a0 : (List ByteArray)) (a1 : Int) : Option (Int × (List ByteArray)) :=
  ((loopF (laws_markStringS_w_L1) ⟨a1, 0, a0⟩).bind fun y158 =>
  some (y158.t1, y158.c0))
structure laws_markPacketS_w_G1 where
  t1 : Int
  t5 : Int
  c0 : (List PacketT)
structure laws_markPacketS_w_P1_0 where
  t1 : Int
  c0 : (List PacketT)
noncomputable def laws_markPacketS_w_L1 (g162 : laws_markPacketS_w_G1) : Option (laws_markPacketS_w_G1 ⊕ laws_markPacketS_w_P1_0) :=
  (if (decide (g162.t5 < ((g162.c0.length : Nat) : Int))) = true then
    (guardO (0 ≤ g162.t5 ∧ g162.t5 < ((g162.c0.length : Nat) : Int)) <|
    (guardO (0 ≤ g162.t5 ∧ g162.t5 < ((g162.c0.length : Nat) : Int)) <|
    ((laws_markText (wI ((wI (g162.t1 + 1)) + 1))).bind fun c164 =>
    (guardO (0 ≤ g162.t5 ∧ g162.t5 < ((g162.c0.length : Nat) : Int)) <|
    some (.inl ⟨(wI ((wI ((wI (g162.t1 + 1)) + 1)) + 1)), (wI (g162.t5 + 1)), (((g162.c0.set g162.t5.toNat (⟨((g162.t1.tmod 3) == 0), (nth g162.c0 g162.t5.toNat).No, (nth g162.c0 g162.t5.toNat).Text⟩ : PacketT)).set g162.t5.toNat (⟨(nth (g162.c0.set g162.t5.toNat (⟨((g162.t1.tmod 3) == 0), (nth g162.c0 g162.t5.toNat).No, (nth g162.c0 g162.t5.toNat).Text⟩ : PacketT)) g162.t5.toNat).Ack, (wI (g162.t1 + 1)), (nth (g162.c0.set g162.t5.toNat (⟨((g162.t1.tmod 3) == 0), (nth g162.c0 g162.t5.toNat).No, (nth g162.c0 g162.t5.toNat).Text⟩ : PacketT)) g162.t5.toNat).Text⟩ : PacketT)).set g162.t5.toNat (⟨(nth ((g162.c0.set g162.t5.toNat (⟨((g162.t1.tmod 3) == 0), (nth g162.c0 g162.t5.toNat).No, (nth g162.c0 g162.t5.toNat).Text⟩ : PacketT)).set g162.t5.toNat (⟨(nth (g162.c0.set g162.t5.toNat (⟨((g162.t1.tmod 3) == 0), (nth g162.c0 g162.t5.toNat).No, (nth g162.c0 g162.t5.toNat).Text⟩ : PacketT)) g162.t5.toNat).Ack, (wI (g162.t1 + 1)), (nth (g162.c0.set g162.t5.toNat (⟨((g162.t1.tmod 3) == 0), (nth g162.c0 g162.t5.toNat).No, (nth g162.c0 g162.t5.toNat).Text⟩ : PacketT)) g162.t5.toNat).Text⟩ : PacketT)) g162.t5.toNat).Ack, (nth ((g162.c0.set g162.t5.toNat (⟨((g162.t1.tmod 3) == 0), (nth g162.c0 g162.t5.toNat).No, (nth g162.c0 g162.t5.toNat).Text⟩ : PacketT)).set g162.t5.toNat (⟨(nth (g162.c0.set g162.t5.toNat (⟨((g162.t1.tmod 3) == 0), (nth g162.c0 g162.t5.toNat).No, (nth g162.c0 g162.t5.toNat).Text⟩ : PacketT)) g162.t5.toNat).Ack, (wI (g162.t1 + 1)), (nth (g162.c0.set g162.t5.toNat (⟨((g162.t1.tmod 3) == 0), (nth g162.c0 g162.t5.toNat).No, (nth g162.c0 g162.t5.toNat).Text⟩ : PacketT)) g162.t5.toNat).Text⟩ : PacketT)) g162.t5.toNat).No, c164⟩ : PacketT))⟩)))))
  else
    some (.inr (⟨g162.t1, g162.c0⟩)))
noncomputable def laws_markPacketS_w (a0 : (List PacketT)) (a1 : Int) : Option (Int × (List PacketT)) :=
  ((loopF (laws_markPacketS_w_L1) ⟨a1, 0, a0⟩).bind fun y165 =>
  some (y165.t1, y165.c0))
noncomputable def laws_markQueue_www (a0 : QueueT) (a1 : Int) : Option (Int × (List ByteArray) × (List ByteArray) × (List PacketT)) :=
  ((laws_markStringS_w a0.Sent a1).bind fun c159 =>
  (guardO (c159.2.length = a0.Sent.length) <|
  ((laws_markStringS_w a0.Got c159.1).bind fun c160 =>
  (guardO (c160.2.length = a0.Got.length) <|
  ((laws_markPacketS_w a0.Line c160.1).bind fun c166 =>
  (guardO (c166.2.length = a0.Line.length) <|
  some (c166.1, c159.2, c160.2, c166.2)))))))
structure laws_heldStringS_G1 where
  t1 : Int
  t5 : Int
structure laws_heldStringS_P1_1 where
  t1 : Int
noncomputable def laws_heldStringS_L1 (a0 : (List ByteArray)) (g171 : laws_heldStringS_G1) : Option (laws_heldStringS_G1 ⊕ (Unit ⊕ laws_heldStringS_P1_1)) :=
  (if (decide (g171.t5 < ((a0.length : Nat) : Int))) = true then
    (guardO (0 ≤ g171.t5 ∧ g171.t5 < (a0.length : Int)) <|
    ((laws_markText g171.t1).bind fun c173 =>
    (if (!((nth a0 g171.t5.toNat).toList == c173.toList)) = true then
      some (.inr (.inl ()))
    else
      some (.inl ⟨(wI (g171.t1 + 1)), (wI (g171.t5 + 1))⟩))))
  else
    some (.inr (.inr (⟨g171.t1⟩))))
noncomputable def laws_heldStringS (a0 : (List ByteArray)) (a1 : Int) : Option Int :=
  ((loopF (laws_heldStringS_L1 a0) ⟨a1, 0⟩).bind fun y174 =>
  match y174 with
  | .inl p175 =>
    some (-1)
  | .inr p176 =>
    some p176.t1)
structure laws_heldPacketS_G1 where
  t1 : Int
  t5 : Int
structure laws_heldPacketS_P1_1 where
  t1 : Int
noncomputable def laws_heldPacketS_L1 (a0 : (List PacketT)) (g179 : laws_heldPacketS_G1) : Option (laws_heldPacketS_G1 ⊕ (Unit ⊕ laws_heldPacketS_P1_1)) :=
  (if (decide (g179.t5 < ((a0.length : Nat) : Int))) = true then
    (guardO (0 ≤ g179.t5 ∧ g179.t5 < (a0.length : Int)) <|
    (if (!(((nth a0 g179.t5.toNat).Ack) == ((g179.t1.tmod 3) == 0))) = true then
      some (.inr (.inl ()))
    else
      (guardO (0 ≤ g179.t5 ∧ g179.t5 < (a0.length : Int)) <|
      (if (((nth a0 g179.t5.toNat).No) != (wI (g179.t1 + 1))) = true then
        some (.inr (.inl ()))
      else
        (guardO (0 ≤ g179.t5 ∧ g179.t5 < (a0.length : Int)) <|
        ((laws_markText (wI ((wI (g179.t1 + 1)) + 1))).bind fun c181 =>
        (if (!(((nth a0 g179.t5.toNat).Text).toList == c181.toList)) = true then
          some (.inr (.inl ()))
        else
          some (.inl ⟨(wI ((wI ((wI (g179.t1 + 1)) + 1)) + 1)), (wI (g179.t5 + 1))⟩))))))))
  else
    some (.inr (.inr (⟨g179.t1⟩))))
noncomputable def laws_heldPacketS (a0 : (List PacketT)) (a1 : Int) : Option Int :=
  ((loopF (laws_heldPacketS_L1 a0) ⟨a1, 0⟩).bind fun y182 =>
  match y182 with
  | .inl p183 =>
    some (-1)
  | .inr p184 =>
    some p184.t1)
noncomputable def laws_heldQueue (a0 : QueueT) (a1 : Int) : Option Int :=
  ((laws_heldStringS a0.Sent a1).bind fun c177 =>
  (if (decide (c177 < 0)) = true then
    some (-1)
  else
    ((laws_heldStringS a0.Got c177).bind fun c178 =>
    (if (decide (c178 < 0)) = true then
      some (-1)
    else
      ((laws_heldPacketS a0.Line c178).bind fun c185 =>
      (if (decide (c185 < 0)) = true then
        some (-1)
      else
        some c185))))))
structure laws_FnExactStepQueue_J4011 where
  t51 : Bool
structure laws_FnExactStepQueue_J4017 where
  t72 : Bool
structure laws_FnExactStepQueue_J4028 where
  t100 : Bool
noncomputable def laws_FnExactStepQueue (a0 : QueueT) (a1 : LineStepT) : Option Bool :=
  ((laws_szQueue a0 1048576).bind fun c14 =>
  (if (decide (c14 < 0)) = true then
    some true
  else
    ((laws_szLineStep a1 c14).bind fun c15 =>
    (if (decide (c15 < 0)) = true then
      some true
    else
      ((laws_toQueue a0).bind fun c25 =>
      ((laws_toLineStep a1).bind fun c26 =>
      ((spec_StepQueue c25 c26).bind fun c83 =>
      ((laws_toQueue a0).bind fun c84 =>
      ((laws_toLineStep a1).bind fun c85 =>
      ((impl_StepQueue c84 c85).bind fun c133 =>
      ((((laws_eqQueue c133.1 c83.1).bind fun c147 =>
        (if (!c147) = true then
          some (⟨true⟩ : laws_FnExactStepQueue_J4011)
        else
          some (⟨(!(c133.2 == c83.2))⟩ : laws_FnExactStepQueue_J4011))) : Option laws_FnExactStepQueue_J4011).bind fun p148 =>
      (if p148.t51 = true then
        some false
      else
        ((laws_toQueue a0).bind fun c149 =>
        ((laws_eqQueue c84 c149).bind fun c150 =>
        (if (!c150) = true then
          some false
        else
          ((laws_markQueue_www c84 1).bind fun c167 =>
          (guardO (c167.2.1.length = c84.Sent.length) <|
          (guardO (c167.2.2.1.length = c84.Got.length) <|
          (guardO (c167.2.2.2.length = c84.Line.length) <|
          (((if (decide (c167.1 < 0)) = true then
              some (⟨true⟩ : laws_FnExactStepQueue_J4017)
            else
              ((laws_eqQueue c133.1 c83.1).bind fun c168 =>
              (if (!c168) = true then
                some (⟨true⟩ : laws_FnExactStepQueue_J4017)
              else
                some (⟨(!(c133.2 == c83.2))⟩ : laws_FnExactStepQueue_J4017)))) : Option laws_FnExactStepQueue_J4017).bind fun p169 =>
          (if p169.t72 = true then
            some false
          else
            ((laws_markQueue_www c133.1 1).bind fun c170 =>
            (guardO (c170.2.1.length = c133.1.Sent.length) <|
            (guardO (c170.2.2.1.length = c133.1.Got.length) <|
            (guardO (c170.2.2.2.length = c133.1.Line.length) <|
            ((laws_heldQueue (⟨c133.1.Window, c170.2.1, c133.1.Base, c170.2.2.1, c170.2.2.2⟩ : QueueT) 1).bind fun c186 =>
            (if (decide (c186 < 0)) = true then
              some false
            else
              (if (c186 != c170.1) = true then
                some false
              else
                ((laws_toQueue a0).bind fun c187 =>
                ((laws_toLineStep a1).bind fun c188 =>
                ((impl_StepQueue c187 c188).bind fun c189 =>
                ((((laws_eqQueue c189.1 c83.1).bind fun c190 =>
                  (if (!c190) = true then
                    some (⟨true⟩ : laws_FnExactStepQueue_J4028)
                  else
                    some (⟨(!(c189.2 == c83.2))⟩ : laws_FnExactStepQueue_J4028))) : Option laws_FnExactStepQueue_J4028).bind fun p191 =>
                (if p191.t100 = true then
                  some false
                else
                  ((laws_heldQueue (⟨c133.1.Window, c170.2.1, c133.1.Base, c170.2.2.1, c170.2.2.2⟩ : QueueT) 1).bind fun c192 =>
                  (if (decide (c192 < 0)) = true then
                    some false
                  else
                    (if (c192 != c170.1) = true then
                      some false
                    else
                      some true))))))))))))))))))))))))))))))))))))
structure laws_szLineStepS_G1 where
  t1 : Int
  t5 : Int
structure laws_szLineStepS_P1_1 where
  t1 : Int
noncomputable def laws_szLineStepS_L1 (a0 : (List LineStepT)) (g193 : laws_szLineStepS_G1) : Option (laws_szLineStepS_G1 ⊕ (Unit ⊕ laws_szLineStepS_P1_1)) :=
  (if (decide (g193.t5 < ((a0.length : Nat) : Int))) = true then
    (guardO (0 ≤ g193.t5 ∧ g193.t5 < (a0.length : Int)) <|
    ((laws_szLineStep (nth a0 g193.t5.toNat) g193.t1).bind fun c195 =>
    (if (decide (c195 < 0)) = true then
      some (.inr (.inl ()))
    else
      some (.inl ⟨c195, (wI (g193.t5 + 1))⟩))))
  else
    some (.inr (.inr (⟨g193.t1⟩))))
noncomputable def laws_szLineStepS (a0 : (List LineStepT)) (a1 : Int) : Option Int :=
  (if (decide ((wI (a1 - ((a0.length : Nat) : Int))) < 0)) = true then
    some (-1)
  else
    ((loopF (laws_szLineStepS_L1 a0) ⟨(wI (a1 - ((a0.length : Nat) : Int))), 0⟩).bind fun y196 =>
    match y196 with
    | .inl p197 =>
      some (-1)
    | .inr p198 =>
      some p198.t1))
structure laws_toLineStepS_G1 where
  t4 : Int
  c0 : (List LineStepT)
structure laws_toLineStepS_P1_0 where
  c0 : (List LineStepT)
noncomputable def laws_toLineStepS_L1 (a0 : (List LineStepT)) (g200 : laws_toLineStepS_G1) : Option (laws_toLineStepS_G1 ⊕ laws_toLineStepS_P1_0) :=
  (if (decide (g200.t4 < ((a0.length : Nat) : Int))) = true then
    (guardO (0 ≤ g200.t4 ∧ g200.t4 < (a0.length : Int)) <|
    ((laws_toLineStep (nth a0 g200.t4.toNat)).bind fun c202 =>
    (guardO (0 ≤ g200.t4 ∧ g200.t4 < ((g200.c0.length : Nat) : Int)) <|
    some (.inl ⟨(wI (g200.t4 + 1)), (g200.c0.set g200.t4.toNat c202)⟩))))
  else
    some (.inr (⟨g200.c0⟩)))
noncomputable def laws_toLineStepS (a0 : (List LineStepT)) : Option (List LineStepT) :=
  (guardO (0 ≤ ((a0.length : Nat) : Int) ∧ ((a0.length : Nat) : Int) * 32 ≤ 281474976710656 ∧ ((a0.length : Nat) : Int) ≤ 9223372036854775807) <|
  ((loopF (laws_toLineStepS_L1 a0) ⟨0, (List.replicate a0.length (⟨0, 0, ByteArray.empty⟩ : LineStepT))⟩).bind fun y203 =>
  some y203.c0))
noncomputable def spec_NewQueue (a0 : Int) : Option (QueueT × Bool) :=
  ((spec_l1In a0 1 10).bind fun c205 =>
  (if (!c205) = true then
    some ((⟨0, [], 0, [], []⟩ : QueueT), false)
  else
    some ((⟨a0, [], 0, [], []⟩ : QueueT), true)))
structure spec_PlayQueue_J4002 where
  t25 : Bool
structure spec_PlayQueue_G1 where
  t29 : Int
  b1_0 : Int
  b1_2 : Int
  c2 : (List Bool)
  c3 : (List ByteArray)
  c4 : (List ByteArray)
  c5 : (List PacketT)
structure spec_PlayQueue_P1_0 where
  b1_0 : Int
  b1_2 : Int
  c2 : (List Bool)
  c3 : (List ByteArray)
  c4 : (List ByteArray)
  c5 : (List PacketT)
noncomputable def spec_PlayQueue_L1 (a1 : (List LineStepT)) (g208 : spec_PlayQueue_G1) : Option (spec_PlayQueue_G1 ⊕ spec_PlayQueue_P1_0) :=
  (if (decide (g208.t29 < ((a1.length : Nat) : Int))) = true then
    (guardO (0 ≤ g208.t29 ∧ g208.t29 < (a1.length : Int)) <|
    ((spec_l14Own (⟨g208.b1_0, g208.c3, g208.b1_2, g208.c4, g208.c5⟩ : QueueT)).bind fun c211 =>
    ((spec_l14Step_www c211 (nth a1 g208.t29.toNat)).bind fun c212 =>
    (if c212.2 = true then
      (guardO ((g208.c2.length + 1) * 1 ≤ 140737488355328) <|
      some (.inl ⟨(wI (g208.t29 + 1)), c212.1.Window, c212.1.Base, (g208.c2 ++ ([c212.2])), c212.1.Sent, c212.1.Got, c212.1.Line⟩))
    else
      (guardO ((g208.c2.length + 1) * 1 ≤ 140737488355328) <|
      some (.inl ⟨(wI (g208.t29 + 1)), g208.b1_0, g208.b1_2, (g208.c2 ++ ([c212.2])), g208.c3, g208.c4, g208.c5⟩))))))
  else
    some (.inr (⟨g208.b1_0, g208.b1_2, g208.c2, g208.c3, g208.c4, g208.c5⟩)))
noncomputable def spec_PlayQueue (a0 : Int) (a1 : (List LineStepT)) : Option (QueueT × (List Bool) × Bool) :=
  ((spec_NewQueue a0).bind fun c206 =>
  (((if (!c206.2) = true then
      some (⟨true⟩ : spec_PlayQueue_J4002)
    else
      some (⟨(decide (((a1.length : Nat) : Int) > 200))⟩ : spec_PlayQueue_J4002)) : Option spec_PlayQueue_J4002).bind fun p207 =>
  (if p207.t25 = true then
    some ((⟨0, [], 0, [], []⟩ : QueueT), [], false)
  else
    ((loopF (spec_PlayQueue_L1 a1) ⟨0, c206.1.Window, c206.1.Base, [], [], [], []⟩).bind fun y213 =>
    ((spec_l14Own (⟨y213.b1_0, y213.c3, y213.b1_2, y213.c4, y213.c5⟩ : QueueT)).bind fun c214 =>
    some (c214, y213.c2, true))))))
noncomputable def impl_NewQueue (a0 : Int) : Option (QueueT × Bool) :=
  ((impl_in a0 1 10).bind fun c218 =>
  (if (!c218) = true then
    some ((⟨0, [], 0, [], []⟩ : QueueT), false)
  else
    some ((⟨a0, [], 0, [], []⟩ : QueueT), true)))
structure impl_PlayQueue_J4002 where
  t23 : Bool
structure impl_PlayQueue_G1 where
  t28 : Int
  b1_0 : Int
  b1_2 : Int
  c2 : (List Bool)
  c3 : (List ByteArray)
  c4 : (List ByteArray)
  c5 : (List PacketT)
structure impl_PlayQueue_P1_0 where
  b1_0 : Int
  b1_2 : Int
  c2 : (List Bool)
  c3 : (List ByteArray)
  c4 : (List ByteArray)
  c5 : (List PacketT)
noncomputable def impl_PlayQueue_L1 (a1 : (List LineStepT)) (g221 : impl_PlayQueue_G1) : Option (impl_PlayQueue_G1 ⊕ impl_PlayQueue_P1_0) :=
  (if (decide (g221.t28 < ((a1.length : Nat) : Int))) = true then
    (guardO (0 ≤ g221.t28 ∧ g221.t28 < (a1.length : Int)) <|
    ((impl_Queue_step_o (⟨g221.b1_0, g221.c3, g221.b1_2, g221.c4, g221.c5⟩ : QueueT) (nth a1 g221.t28.toNat)).bind fun c256 =>
    (guardO ((g221.c2.length + 1) * 1 ≤ 140737488355328) <|
    some (.inl ⟨(wI (g221.t28 + 1)), c256.2.Window, c256.2.Base, (g221.c2 ++ ([c256.1])), c256.2.Sent, c256.2.Got, c256.2.Line⟩))))
  else
    some (.inr (⟨g221.b1_0, g221.b1_2, g221.c2, g221.c3, g221.c4, g221.c5⟩)))
noncomputable def impl_PlayQueue (a0 : Int) (a1 : (List LineStepT)) : Option (QueueT × (List Bool) × Bool) :=
  ((impl_NewQueue a0).bind fun c219 =>
  (((if (!c219.2) = true then
      some (⟨true⟩ : impl_PlayQueue_J4002)
    else
      some (⟨(decide (((a1.length : Nat) : Int) > 200))⟩ : impl_PlayQueue_J4002)) : Option impl_PlayQueue_J4002).bind fun p220 =>
  (if p220.t23 = true then
    some ((⟨0, [], 0, [], []⟩ : QueueT), [], false)
  else
    ((loopF (impl_PlayQueue_L1 a1) ⟨0, c219.1.Window, c219.1.Base, [], [], [], []⟩).bind fun y257 =>
    some ((⟨y257.b1_0, y257.c3, y257.b1_2, y257.c4, y257.c5⟩ : QueueT), y257.c2, true)))))
structure laws_eqBoolS_G1 where
  t5 : Int
noncomputable def laws_eqBoolS_L1 (a0 : (List Bool)) (a1 : (List Bool)) (g260 : laws_eqBoolS_G1) : Option (laws_eqBoolS_G1 ⊕ (Unit ⊕ Unit)) :=
  (if (decide (g260.t5 < ((a0.length : Nat) : Int))) = true then
    (guardO (0 ≤ g260.t5 ∧ g260.t5 < (a0.length : Int)) <|
    (guardO (0 ≤ g260.t5 ∧ g260.t5 < (a1.length : Int)) <|
    (if (!((nth a0 g260.t5.toNat) == (nth a1 g260.t5.toNat))) = true then
      some (.inr (.inl ()))
    else
      some (.inl ⟨(wI (g260.t5 + 1))⟩))))
  else
    some (.inr (.inr ())))
noncomputable def laws_eqBoolS (a0 : (List Bool)) (a1 : (List Bool)) : Option Bool :=
  (if (((a0.length : Nat) : Int) != ((a1.length : Nat) : Int)) = true then
    some false
  else
    ((loopF (laws_eqBoolS_L1 a0 a1) ⟨0⟩).bind fun y261 =>
    match y261 with
    | .inl p262 =>
      some false
    | .inr p263 =>
      some true))
noncomputable def laws_eqLineStep (a0 : LineStepT) (a1 : LineStepT) : Option Bool :=
  (if (a0.Kind != a1.Kind) = true then
    some false
  else
    (if (a0.K != a1.K) = true then
      some false
    else
      (if (!(a0.Text.toList == a1.Text.toList)) = true then
        some false
      else
        some true)))
structure laws_eqLineStepS_G1 where
  t5 : Int
noncomputable def laws_eqLineStepS_L1 (a0 : (List LineStepT)) (a1 : (List LineStepT)) (g267 : laws_eqLineStepS_G1) : Option (laws_eqLineStepS_G1 ⊕ (Unit ⊕ Unit)) :=
  (if (decide (g267.t5 < ((a0.length : Nat) : Int))) = true then
    (guardO (0 ≤ g267.t5 ∧ g267.t5 < (a0.length : Int)) <|
    (guardO (0 ≤ g267.t5 ∧ g267.t5 < (a1.length : Int)) <|
    ((laws_eqLineStep (nth a0 g267.t5.toNat) (nth a1 g267.t5.toNat)).bind fun c269 =>
    (if (!c269) = true then
      some (.inr (.inl ()))
    else
      some (.inl ⟨(wI (g267.t5 + 1))⟩)))))
  else
    some (.inr (.inr ())))
noncomputable def laws_eqLineStepS (a0 : (List LineStepT)) (a1 : (List LineStepT)) : Option Bool :=
  (if (((a0.length : Nat) : Int) != ((a1.length : Nat) : Int)) = true then
    some false
  else
    ((loopF (laws_eqLineStepS_L1 a0 a1) ⟨0⟩).bind fun y270 =>
    match y270 with
    | .inl p271 =>
      some false
    | .inr p272 =>
      some true))
structure laws_markLineStepS_w_G1 where
  t1 : Int
  t5 : Int
  c0 : (List LineStepT)
structure laws_markLineStepS_w_P1_0 where
  t1 : Int
  c0 : (List LineStepT)
noncomputable def laws_markLineStepS_w_L1 (g275 : laws_markLineStepS_w_G1) : Option (laws_markLineStepS_w_G1 ⊕ laws_markLineStepS_w_P1_0) :=
  (if (decide (g275.t5 < ((g275.c0.length : Nat) : Int))) = true then
    (guardO (0 ≤ g275.t5 ∧ g275.t5 < ((g275.c0.length : Nat) : Int)) <|
    (guardO (0 ≤ g275.t5 ∧ g275.t5 < ((g275.c0.length : Nat) : Int)) <|
    ((laws_markText (wI ((wI (g275.t1 + 1)) + 1))).bind fun c277 =>
    (guardO (0 ≤ g275.t5 ∧ g275.t5 < ((g275.c0.length : Nat) : Int)) <|
    some (.inl ⟨(wI ((wI ((wI (g275.t1 + 1)) + 1)) + 1)), (wI (g275.t5 + 1)), (((g275.c0.set g275.t5.toNat (⟨g275.t1, (nth g275.c0 g275.t5.toNat).K, (nth g275.c0 g275.t5.toNat).Text⟩ : LineStepT)).set g275.t5.toNat (⟨(nth (g275.c0.set g275.t5.toNat (⟨g275.t1, (nth g275.c0 g275.t5.toNat).K, (nth g275.c0 g275.t5.toNat).Text⟩ : LineStepT)) g275.t5.toNat).Kind, (wI (g275.t1 + 1)), (nth (g275.c0.set g275.t5.toNat (⟨g275.t1, (nth g275.c0 g275.t5.toNat).K, (nth g275.c0 g275.t5.toNat).Text⟩ : LineStepT)) g275.t5.toNat).Text⟩ : LineStepT)).set g275.t5.toNat (⟨(nth ((g275.c0.set g275.t5.toNat (⟨g275.t1, (nth g275.c0 g275.t5.toNat).K, (nth g275.c0 g275.t5.toNat).Text⟩ : LineStepT)).set g275.t5.toNat (⟨(nth (g275.c0.set g275.t5.toNat (⟨g275.t1, (nth g275.c0 g275.t5.toNat).K, (nth g275.c0 g275.t5.toNat).Text⟩ : LineStepT)) g275.t5.toNat).Kind, (wI (g275.t1 + 1)), (nth (g275.c0.set g275.t5.toNat (⟨g275.t1, (nth g275.c0 g275.t5.toNat).K, (nth g275.c0 g275.t5.toNat).Text⟩ : LineStepT)) g275.t5.toNat).Text⟩ : LineStepT)) g275.t5.toNat).Kind, (nth ((g275.c0.set g275.t5.toNat (⟨g275.t1, (nth g275.c0 g275.t5.toNat).K, (nth g275.c0 g275.t5.toNat).Text⟩ : LineStepT)).set g275.t5.toNat (⟨(nth (g275.c0.set g275.t5.toNat (⟨g275.t1, (nth g275.c0 g275.t5.toNat).K, (nth g275.c0 g275.t5.toNat).Text⟩ : LineStepT)) g275.t5.toNat).Kind, (wI (g275.t1 + 1)), (nth (g275.c0.set g275.t5.toNat (⟨g275.t1, (nth g275.c0 g275.t5.toNat).K, (nth g275.c0 g275.t5.toNat).Text⟩ : LineStepT)) g275.t5.toNat).Text⟩ : LineStepT)) g275.t5.toNat).K, c277⟩ : LineStepT))⟩)))))
  else
    some (.inr (⟨g275.t1, g275.c0⟩)))
noncomputable def laws_markLineStepS_w (a0 : (List LineStepT)) (a1 : Int) : Option (Int × (List LineStepT)) :=
  ((loopF (laws_markLineStepS_w_L1) ⟨a1, 0, a0⟩).bind fun y278 =>
  some (y278.t1, y278.c0))
structure laws_markBoolS_w_G1 where
  t1 : Int
  t5 : Int
  c0 : (List Bool)
structure laws_markBoolS_w_P1_0 where
  t1 : Int
  c0 : (List Bool)
noncomputable def laws_markBoolS_w_L1 (g285 : laws_markBoolS_w_G1) : Option (laws_markBoolS_w_G1 ⊕ laws_markBoolS_w_P1_0) :=
  (if (decide (g285.t5 < ((g285.c0.length : Nat) : Int))) = true then
    (guardO (0 ≤ g285.t5 ∧ g285.t5 < ((g285.c0.length : Nat) : Int)) <|
    some (.inl ⟨(wI (g285.t1 + 1)), (wI (g285.t5 + 1)), (g285.c0.set g285.t5.toNat ((g285.t1.tmod 3) == 0))⟩))
  else
    some (.inr (⟨g285.t1, g285.c0⟩)))
noncomputable def laws_markBoolS_w (a0 : (List Bool)) (a1 : Int) : Option (Int × (List Bool)) :=
  ((loopF (laws_markBoolS_w_L1) ⟨a1, 0, a0⟩).bind fun y286 =>
  some (y286.t1, y286.c0))
structure laws_heldBoolS_G1 where
  t1 : Int
  t5 : Int
structure laws_heldBoolS_P1_1 where
  t1 : Int
noncomputable def laws_heldBoolS_L1 (a0 : (List Bool)) (g289 : laws_heldBoolS_G1) : Option (laws_heldBoolS_G1 ⊕ (Unit ⊕ laws_heldBoolS_P1_1)) :=
  (if (decide (g289.t5 < ((a0.length : Nat) : Int))) = true then
    (guardO (0 ≤ g289.t5 ∧ g289.t5 < (a0.length : Int)) <|
    (if (!((nth a0 g289.t5.toNat) == ((g289.t1.tmod 3) == 0))) = true then
      some (.inr (.inl ()))
    else
      some (.inl ⟨(wI (g289.t1 + 1)), (wI (g289.t5 + 1))⟩)))
  else
    some (.inr (.inr (⟨g289.t1⟩))))
noncomputable def laws_heldBoolS (a0 : (List Bool)) (a1 : Int) : Option Int :=
  ((loopF (laws_heldBoolS_L1 a0) ⟨a1, 0⟩).bind fun y290 =>
  match y290 with
  | .inl p291 =>
    some (-1)
  | .inr p292 =>
    some p292.t1)
structure laws_FnExactPlayQueue_J4008 where
  t55 : Bool
structure laws_FnExactPlayQueue_J4014 where
  t82 : Bool
structure laws_FnExactPlayQueue_J4029 where
  t124 : Bool
noncomputable def laws_FnExactPlayQueue (a0 : Int) (a1 : (List LineStepT)) : Option Bool :=
  ((laws_szLineStepS a1 1048576).bind fun c199 =>
  (if (decide (c199 < 0)) = true then
    some true
  else
    ((laws_toLineStepS a1).bind fun c204 =>
    ((spec_PlayQueue a0 c204).bind fun c216 =>
    ((laws_toLineStepS a1).bind fun c217 =>
    ((impl_PlayQueue a0 c217).bind fun c258 =>
    ((((laws_eqQueue c258.1 c216.1).bind fun c259 =>
      (if (!c259) = true then
        some (⟨true⟩ : laws_FnExactPlayQueue_J4008)
      else
        ((laws_eqBoolS c258.2.1 c216.2.1).bind fun c264 =>
        (if (!c264) = true then
          some (⟨true⟩ : laws_FnExactPlayQueue_J4008)
        else
          some (⟨(!(c258.2.2 == c216.2.2))⟩ : laws_FnExactPlayQueue_J4008))))) : Option laws_FnExactPlayQueue_J4008).bind fun p265 =>
    (if p265.t55 = true then
      some false
    else
      ((laws_toLineStepS a1).bind fun c266 =>
      ((laws_eqLineStepS c217 c266).bind fun c273 =>
      (if (!c273) = true then
        some false
      else
        ((laws_markLineStepS_w c217 1).bind fun c279 =>
        (guardO (c279.2.length = c217.length) <|
        (((if (decide (c279.1 < 0)) = true then
            some (⟨true⟩ : laws_FnExactPlayQueue_J4014)
          else
            ((laws_eqQueue c258.1 c216.1).bind fun c280 =>
            (if (!c280) = true then
              some (⟨true⟩ : laws_FnExactPlayQueue_J4014)
            else
              ((laws_eqBoolS c258.2.1 c216.2.1).bind fun c281 =>
              (if (!c281) = true then
                some (⟨true⟩ : laws_FnExactPlayQueue_J4014)
              else
                some (⟨(!(c258.2.2 == c216.2.2))⟩ : laws_FnExactPlayQueue_J4014)))))) : Option laws_FnExactPlayQueue_J4014).bind fun p282 =>
        (if p282.t82 = true then
          some false
        else
          ((laws_markQueue_www c258.1 1).bind fun c283 =>
          (guardO (c283.2.1.length = c258.1.Sent.length) <|
          (guardO (c283.2.2.1.length = c258.1.Got.length) <|
          (guardO (c283.2.2.2.length = c258.1.Line.length) <|
          ((laws_markBoolS_w c258.2.1 c283.1).bind fun c287 =>
          (guardO (c287.2.length = c258.2.1.length) <|
          ((laws_heldQueue (⟨c258.1.Window, c283.2.1, c258.1.Base, c283.2.2.1, c283.2.2.2⟩ : QueueT) 1).bind fun c288 =>
          (if (decide (c288 < 0)) = true then
            some false
          else
            ((laws_heldBoolS c287.2 c288).bind fun c293 =>
            (if (decide (c293 < 0)) = true then
              some false
            else
              (if (c293 != c287.1) = true then
                some false
              else
                ((laws_toLineStepS a1).bind fun c294 =>
                ((impl_PlayQueue a0 c294).bind fun c295 =>
                ((((laws_eqQueue c295.1 c216.1).bind fun c296 =>
                  (if (!c296) = true then
                    some (⟨true⟩ : laws_FnExactPlayQueue_J4029)
                  else
                    ((laws_eqBoolS c295.2.1 c216.2.1).bind fun c297 =>
                    (if (!c297) = true then
                      some (⟨true⟩ : laws_FnExactPlayQueue_J4029)
                    else
                      some (⟨(!(c295.2.2 == c216.2.2))⟩ : laws_FnExactPlayQueue_J4029))))) : Option laws_FnExactPlayQueue_J4029).bind fun p298 =>
                (if p298.t124 = true then
                  some false
                else
                  ((laws_heldQueue (⟨c258.1.Window, c283.2.1, c258.1.Base, c283.2.2.1, c283.2.2.2⟩ : QueueT) 1).bind fun c299 =>
                  (if (decide (c299 < 0)) = true then
                    some false
                  else
                    ((laws_heldBoolS c287.2 c299).bind fun c300 =>
                    (if (decide (c300 < 0)) = true then
                      some false
                    else
                      (if (c300 != c287.1) = true then
                        some false
                      else
                        some true)))))))))))))))))))))))))))))))))))
noncomputable def spec_l1Cur_among_ow (a0 : l1CurT) (a1 : (List Int)) : Option (Int × l1CurT) :=
  ((spec_l1Cur_pick_o a0 ((a1.length : Nat) : Int)).bind fun c312 =>
  (guardO (0 ≤ c312.1 ∧ c312.1 < ((a1.length : Nat) : Int)) <|
  some ((nth a1 c312.1.toNat), c312.2)))
noncomputable def spec_l1Cur_of_ow (a0 : l1CurT) (a1 : (List ByteArray)) : Option (ByteArray × l1CurT) :=
  ((spec_l1Cur_pick_o a0 ((a1.length : Nat) : Int)).bind fun c315 =>
  (guardO (0 ≤ c315.1 ∧ c315.1 < ((a1.length : Nat) : Int)) <|
  some ((nth a1 c315.1.toNat), c315.2)))
structure spec_l1Cur_lineSteps_o_J2010 where
  t4 : Int
  b0_0 : (List Int)
  b0_1 : Int
  b0_2 : Int
structure spec_l1Cur_lineSteps_o_G1 where
  t4 : Int
  t5 : Int
  b0_0 : (List Int)
  b0_1 : Int
  b0_2 : Int
  c1 : (List LineStepT)
structure spec_l1Cur_lineSteps_o_P1_0 where
  b0_0 : (List Int)
  b0_1 : Int
  b0_2 : Int
  c1 : (List LineStepT)
structure spec_l1Cur_lineSteps_o_J12026 where
  t5 : Int
  b0_0 : (List Int)
  b0_1 : Int
  b0_2 : Int
  b2_1 : Int
  b2_2 : ByteArray
structure spec_l1Cur_lineSteps_o_J12036 where
  b0_0 : (List Int)
  b0_1 : Int
  b0_2 : Int
  b2_1 : Int
noncomputable def spec_l1Cur_lineSteps_o_L1 (g311 : spec_l1Cur_lineSteps_o_G1) : Option (spec_l1Cur_lineSteps_o_G1 ⊕ spec_l1Cur_lineSteps_o_P1_0) :=
  (if (decide (g311.t4 > 0)) = true then
    ((spec_l1Cur_among_ow (⟨g311.b0_0, g311.b0_1, g311.b0_2⟩ : l1CurT) ([1, 2, 2, 3, 3, 3, 4, 5])).bind fun c322 =>
    ((spec_l1Cur_pick_o c322.2 5).bind fun c323 =>
    (((if (c322.1 == 1) = true then
        ((spec_l1Cur_of_ow c323.2 ([(⟨#[97]⟩ : ByteArray), (⟨#[98]⟩ : ByteArray), (⟨#[116, 101, 120, 116]⟩ : ByteArray), ByteArray.empty])).bind fun c324 =>
        some (⟨(wI (g311.t5 + 1)), c324.2.code, c324.2.at_, c324.2.seed, 0, c324.1⟩ : spec_l1Cur_lineSteps_o_J12026))
      else
        some (⟨g311.t5, c323.2.code, c323.2.at_, c323.2.seed, c323.1, ByteArray.empty⟩ : spec_l1Cur_lineSteps_o_J12026)) : Option spec_l1Cur_lineSteps_o_J12026).bind fun p325 =>
    (((if (c322.1 == 2) = true then
        ((spec_l1Cur_pick_o (⟨p325.b0_0, p325.b0_1, p325.b0_2⟩ : l1CurT) (wI (p325.t5 + 2))).bind fun c326 =>
        some (⟨c326.2.code, c326.2.at_, c326.2.seed, c326.1⟩ : spec_l1Cur_lineSteps_o_J12036))
      else
        some (⟨p325.b0_0, p325.b0_1, p325.b0_2, p325.b2_1⟩ : spec_l1Cur_lineSteps_o_J12036)) : Option spec_l1Cur_lineSteps_o_J12036).bind fun p327 =>
    ((spec_l1Cur_one_o (⟨p327.b0_0, p327.b0_1, p327.b0_2⟩ : l1CurT) 60).bind fun c328 =>
    (if c328.1 = true then
      ((spec_l1Cur_pick_o c328.2 8).bind fun c329 =>
      (guardO ((g311.c1.length + 1) * 32 ≤ 140737488355328) <|
      some (.inl ⟨(wI (g311.t4 - 1)), p325.t5, c329.2.code, c329.2.at_, c329.2.seed, (g311.c1 ++ ([(⟨c329.1, (wI (p327.b2_1 - 2)), p325.b2_2⟩ : LineStepT)]))⟩)))
    else
      (guardO ((g311.c1.length + 1) * 32 ≤ 140737488355328) <|
      some (.inl ⟨(wI (g311.t4 - 1)), p325.t5, c328.2.code, c328.2.at_, c328.2.seed, (g311.c1 ++ ([(⟨c322.1, p327.b2_1, p325.b2_2⟩ : LineStepT)]))⟩))))))))
  else
    some (.inr (⟨g311.b0_0, g311.b0_1, g311.b0_2, g311.c1⟩)))
noncomputable def spec_l1Cur_lineSteps_o (a0 : l1CurT) : Option ((List LineStepT) × l1CurT) :=
  ((spec_l1Cur_pick_o a0 40).bind fun c306 =>
  ((((spec_l1Cur_one_o c306.2 12).bind fun c308 =>
    (if c308.1 = true then
      ((spec_l1Cur_pick_o c308.2 22).bind fun c309 =>
      some (⟨(wI (180 + c309.1)), c309.2.code, c309.2.at_, c309.2.seed⟩ : spec_l1Cur_lineSteps_o_J2010))
    else
      some (⟨c306.1, c308.2.code, c308.2.at_, c308.2.seed⟩ : spec_l1Cur_lineSteps_o_J2010))) : Option spec_l1Cur_lineSteps_o_J2010).bind fun p310 =>
  ((loopF (spec_l1Cur_lineSteps_o_L1) ⟨p310.t4, 0, p310.b0_0, p310.b0_1, p310.b0_2, []⟩).bind fun y330 =>
  some (y330.c1, (⟨y330.b0_0, y330.b0_1, y330.b0_2⟩ : l1CurT)))))
noncomputable def spec_DrawPlayQueue (a0 : (List Int)) : Option (Int × (List LineStepT)) :=
  ((spec_l1Cur_pick_o (⟨a0, 0, 0⟩ : l1CurT) 4).bind fun c305 =>
  ((spec_l1Cur_lineSteps_o c305.2).bind fun c331 =>
  some ((wI (1 + c305.1)), c331.1)))
structure laws_sameTexts_G1 where
  t13 : Int
noncomputable def laws_sameTexts_L1 (a0 : (List ByteArray)) (a1 : (List ByteArray)) (g340 : laws_sameTexts_G1) : Option (laws_sameTexts_G1 ⊕ (Unit ⊕ Unit)) :=
  (if (decide (g340.t13 < ((a0.length : Nat) : Int))) = true then
    (guardO (0 ≤ g340.t13 ∧ g340.t13 < (a0.length : Int)) <|
    (guardO (0 ≤ g340.t13 ∧ g340.t13 < (a1.length : Int)) <|
    (if (!((nth a0 g340.t13.toNat).toList == (nth a1 g340.t13.toNat).toList)) = true then
      some (.inr (.inl ()))
    else
      some (.inl ⟨(wI (g340.t13 + 1))⟩))))
  else
    some (.inr (.inr ())))
noncomputable def laws_sameTexts (a0 : (List ByteArray)) (a1 : (List ByteArray)) : Option Bool :=
  (if (((a0.length : Nat) : Int) != ((a1.length : Nat) : Int)) = true then
    some false
  else
    ((loopF (laws_sameTexts_L1 a0 a1) ⟨0⟩).bind fun y341 =>
    match y341 with
    | .inl p342 =>
      some false
    | .inr p343 =>
      some true))
structure laws_samePackets_G1 where
  t13 : Int
noncomputable def laws_samePackets_L1 (a0 : (List PacketT)) (a1 : (List PacketT)) (g345 : laws_samePackets_G1) : Option (laws_samePackets_G1 ⊕ (Unit ⊕ Unit)) :=
  (if (decide (g345.t13 < ((a0.length : Nat) : Int))) = true then
    (guardO (0 ≤ g345.t13 ∧ g345.t13 < (a0.length : Int)) <|
    (guardO (0 ≤ g345.t13 ∧ g345.t13 < (a1.length : Int)) <|
    (if (!((((nth a0 g345.t13.toNat).Ack) == ((nth a1 g345.t13.toNat).Ack)) && ((((nth a0 g345.t13.toNat).No) == ((nth a1 g345.t13.toNat).No)) && (((nth a0 g345.t13.toNat).Text).toList == ((nth a1 g345.t13.toNat).Text).toList)))) = true then
      some (.inr (.inl ()))
    else
      some (.inl ⟨(wI (g345.t13 + 1))⟩))))
  else
    some (.inr (.inr ())))
noncomputable def laws_samePackets (a0 : (List PacketT)) (a1 : (List PacketT)) : Option Bool :=
  (if (((a0.length : Nat) : Int) != ((a1.length : Nat) : Int)) = true then
    some false
  else
    ((loopF (laws_samePackets_L1 a0 a1) ⟨0⟩).bind fun y346 =>
    match y346 with
    | .inl p347 =>
      some false
    | .inr p348 =>
      some true))
noncomputable def spec_l1Cur_queue_o (a0 : l1CurT) : Option (QueueT × l1CurT) :=
  ((spec_l1Cur_lineSteps_o a0).bind fun c369 =>
  (if (decide (((c369.1.length : Nat) : Int) > 200)) = true then
    (guardO (0 ≤ 0 ∧ 0 ≤ 60 ∧ 60 ≤ ((c369.1.length : Nat) : Int)) <|
    ((spec_l1Cur_pick_o c369.2 4).bind fun c370 =>
    ((spec_PlayQueue (wI (1 + c370.1)) (c369.1.take 60)).bind fun c371 =>
    ((spec_l1Cur_pick_o c370.2 40).bind fun c372 =>
    (if (c372.1 == 0) = true then
      ((spec_l1Cur_pick_o c372.2 3).bind fun c373 =>
      some ((⟨c371.1.Window, c371.1.Sent, (wI (c371.1.Base + (wI (c373.1 - 1)))), c371.1.Got, c371.1.Line⟩ : QueueT), c373.2))
    else
      (if (c372.1 == 1) = true then
        (guardO ((c371.1.Got.length + 1) * 16 ≤ 140737488355328) <|
        some ((⟨c371.1.Window, c371.1.Sent, c371.1.Base, (c371.1.Got ++ ([(⟨#[122]⟩ : ByteArray)])), c371.1.Line⟩ : QueueT), c372.2))
      else
        (if (c372.1 == 2) = true then
          ((spec_l1Cur_pick_o c372.2 9).bind fun c374 =>
          ((spec_l1Cur_one_o c374.2 2).bind fun c375 =>
          (guardO ((c371.1.Line.length + 1) * 32 ≤ 140737488355328) <|
          some ((⟨c371.1.Window, c371.1.Sent, c371.1.Base, c371.1.Got, (c371.1.Line ++ ([(⟨c375.1, c374.1, ByteArray.empty⟩ : PacketT)]))⟩ : QueueT), c375.2))))
        else
          some (c371.1, c372.2))))))))
  else
    ((spec_l1Cur_pick_o c369.2 4).bind fun c376 =>
    ((spec_PlayQueue (wI (1 + c376.1)) c369.1).bind fun c377 =>
    ((spec_l1Cur_pick_o c376.2 40).bind fun c378 =>
    (if (c378.1 == 0) = true then
      ((spec_l1Cur_pick_o c378.2 3).bind fun c379 =>
      some ((⟨c377.1.Window, c377.1.Sent, (wI (c377.1.Base + (wI (c379.1 - 1)))), c377.1.Got, c377.1.Line⟩ : QueueT), c379.2))
    else
      (if (c378.1 == 1) = true then
        (guardO ((c377.1.Got.length + 1) * 16 ≤ 140737488355328) <|
        some ((⟨c377.1.Window, c377.1.Sent, c377.1.Base, (c377.1.Got ++ ([(⟨#[122]⟩ : ByteArray)])), c377.1.Line⟩ : QueueT), c378.2))
      else
        (if (c378.1 == 2) = true then
          ((spec_l1Cur_pick_o c378.2 9).bind fun c380 =>
          ((spec_l1Cur_one_o c380.2 2).bind fun c381 =>
          (guardO ((c377.1.Line.length + 1) * 32 ≤ 140737488355328) <|
          some ((⟨c377.1.Window, c377.1.Sent, c377.1.Base, c377.1.Got, (c377.1.Line ++ ([(⟨c381.1, c380.1, ByteArray.empty⟩ : PacketT)]))⟩ : QueueT), c381.2))))
        else
          some (c377.1, c378.2)))))))))
noncomputable def spec_DrawStepQueue (a0 : (List Int)) : Option (QueueT × LineStepT) :=
  ((spec_l1Cur_queue_o (⟨a0, 0, 0⟩ : l1CurT)).bind fun c382 =>
  ((spec_l1Cur_pick_o c382.2 5).bind fun c383 =>
  ((spec_l1Cur_pick_o c383.2 (wI (((c382.1.Line.length : Nat) : Int) + 1))).bind fun c384 =>
  (if ((wI (1 + c383.1)) == 2) = true then
    ((spec_l1Cur_pick_o c384.2 4).bind fun c385 =>
    some (c382.1, (⟨(wI (1 + c383.1)), (wI (c382.1.Base + c385.1)), ByteArray.empty⟩ : LineStepT)))
  else
    some (c382.1, (⟨(wI (1 + c383.1)), c384.1, ByteArray.empty⟩ : LineStepT))))))
structure laws_FnQueue_J4006 where
  t80 : Bool
structure laws_FnQueue_G1 where
  t84 : Int
  c2 : (List ByteArray)
structure laws_FnQueue_P1_0 where
  c1 : (List ByteArray)
structure laws_FnQueue_J14013 where
  t97 : Bool
noncomputable def laws_FnQueue_L1 (c332 : (Int × (List LineStepT))) (c333 : (QueueT × (List Bool) × Bool)) (g351 : laws_FnQueue_G1) : Option (laws_FnQueue_G1 ⊕ laws_FnQueue_P1_0) :=
  (if (decide (g351.t84 < ((c332.2.length : Nat) : Int))) = true then
    (guardO (0 ≤ g351.t84 ∧ g351.t84 < ((c332.2.length : Nat) : Int)) <|
    (((guardO (0 ≤ g351.t84 ∧ g351.t84 < ((c333.2.1.length : Nat) : Int)) <|
      (if (nth c333.2.1 g351.t84.toNat) = true then
        some (⟨(((nth c332.2 g351.t84.toNat).Kind) == 1)⟩ : laws_FnQueue_J14013)
      else
        some (⟨false⟩ : laws_FnQueue_J14013))) : Option laws_FnQueue_J14013).bind fun p353 =>
    (if p353.t97 = true then
      (guardO ((g351.c2.length + 1) * 16 ≤ 140737488355328) <|
      some (.inl ⟨(wI (g351.t84 + 1)), (g351.c2 ++ ([(nth c332.2 g351.t84.toNat).Text]))⟩))
    else
      some (.inl ⟨(wI (g351.t84 + 1)), g351.c2⟩))))
  else
    some (.inr (⟨g351.c2⟩)))
structure laws_FnQueue_J4017 where
  t159 : Bool
structure laws_FnQueue_J4022 where
  t195 : Bool
noncomputable def laws_FnQueue (a0 : (List Int)) (a1 : (List Int)) : Option Bool :=
  (if (decide ((wI (((a0.length : Nat) : Int) + ((a1.length : Nat) : Int))) > 1048576)) = true then
    some true
  else
    ((spec_DrawPlayQueue a0).bind fun c332 =>
    ((impl_PlayQueue c332.1 c332.2).bind fun c333 =>
    ((spec_PlayQueue c332.1 c332.2).bind fun c334 =>
    (((if (!(c333.2.2 == c334.2.2)) = true then
        some (⟨true⟩ : laws_FnQueue_J4006)
      else
        ((laws_sameBools c333.2.1 c334.2.1).bind fun c339 =>
        (if (!c339) = true then
          some (⟨true⟩ : laws_FnQueue_J4006)
        else
          ((laws_sameTexts c333.1.Got c334.1.Got).bind fun c344 =>
          (if (!c344) = true then
            some (⟨true⟩ : laws_FnQueue_J4006)
          else
            ((laws_samePackets c333.1.Line c334.1.Line).bind fun c349 =>
            (if (!c349) = true then
              some (⟨true⟩ : laws_FnQueue_J4006)
            else
              some (⟨(c333.1.Base != c334.1.Base)⟩ : laws_FnQueue_J4006)))))))) : Option laws_FnQueue_J4006).bind fun p350 =>
    (if p350.t80 = true then
      some false
    else
      (((if c333.2.2 = true then
          ((loopF (laws_FnQueue_L1 c332 c333) ⟨0, []⟩).bind fun y354 =>
          ((impl_WaitingIn c333.1).bind fun c356 =>
          ((((laws_sameTexts c333.1.Sent y354.c1).bind fun c357 =>
            (if (!c357) = true then
              some (⟨true⟩ : laws_FnQueue_J4017)
            else
              (if (decide (((c333.1.Got.length : Nat) : Int) > ((y354.c1.length : Nat) : Int))) = true then
                some (⟨true⟩ : laws_FnQueue_J4017)
              else
                (guardO (0 ≤ 0 ∧ 0 ≤ ((c333.1.Got.length : Nat) : Int) ∧ ((c333.1.Got.length : Nat) : Int) ≤ ((y354.c1.length : Nat) : Int)) <|
                ((laws_sameTexts c333.1.Got (y354.c1.take c333.1.Got.length)).bind fun c358 =>
                (if (!c358) = true then
                  some (⟨true⟩ : laws_FnQueue_J4017)
                else
                  (if (decide (c333.1.Base > ((c333.1.Got.length : Nat) : Int))) = true then
                    some (⟨true⟩ : laws_FnQueue_J4017)
                  else
                    (if (!c356.2) = true then
                      some (⟨true⟩ : laws_FnQueue_J4017)
                    else
                      (if (c356.1 != (wI (((y354.c1.length : Nat) : Int) - ((c333.1.Got.length : Nat) : Int)))) = true then
                        some (⟨true⟩ : laws_FnQueue_J4017)
                      else
                        ((impl_GoodQueue c333.1).bind fun c359 =>
                        some (⟨(!c359)⟩ : laws_FnQueue_J4017))))))))))) : Option laws_FnQueue_J4017).bind fun p360 =>
          (if p360.t159 = true then
            some (.inr false)
          else
            some (.inl (() : Unit))))))
        else
          some (.inl (() : Unit))) : Option (Unit ⊕ Bool)).bind fun q => match q with
      | .inl p366 =>
        ((spec_DrawStepQueue a1).bind fun c386 =>
        ((impl_StepQueue c386.1 c386.2).bind fun c387 =>
        ((spec_StepQueue c386.1 c386.2).bind fun c388 =>
        (((if (!(c387.2 == c388.2)) = true then
            some (⟨true⟩ : laws_FnQueue_J4022)
          else
            ((laws_sameTexts c387.1.Got c388.1.Got).bind fun c389 =>
            (if (!c389) = true then
              some (⟨true⟩ : laws_FnQueue_J4022)
            else
              ((laws_samePackets c387.1.Line c388.1.Line).bind fun c390 =>
              some (⟨(!c390)⟩ : laws_FnQueue_J4022))))) : Option laws_FnQueue_J4022).bind fun p391 =>
        (if p391.t195 = true then
          some false
        else
          (if (!c387.2) = true then
            some true
          else
            ((impl_GoodQueue c387.1).bind fun c392 =>
            (if c392 = true then
              (if (decide (((c387.1.Got.length : Nat) : Int) ≥ ((c386.1.Got.length : Nat) : Int))) = true then
                some (decide (c387.1.Base ≥ c386.1.Base))
              else
                some false)
            else
              some false))))))))
      | .inr v => some v)))))))
end Go.TL
namespace Go.TL
structure DomainT where
  Name : ByteArray
  Version : Int
  Note : ByteArray
  deriving DecidableEq, Inhabited
noncomputable def laws_szDomain (a0 : DomainT) (a1 : Int) : Option Int :=
  (if (decide ((wI (a1 - (a0.Name.size : Int))) < 0)) = true then
    some (-1)
  else
    (if (decide ((wI ((wI (a1 - (a0.Name.size : Int))) - (a0.Note.size : Int))) < 0)) = true then
      some (-1)
    else
      some (wI ((wI (a1 - (a0.Name.size : Int))) - (a0.Note.size : Int)))))
structure laws_szDomainS_G1 where
  t1 : Int
  t5 : Int
structure laws_szDomainS_P1_1 where
  t1 : Int
noncomputable def laws_szDomainS_L1 (a0 : (List DomainT)) (g1 : laws_szDomainS_G1) : Option (laws_szDomainS_G1 ⊕ (Unit ⊕ laws_szDomainS_P1_1)) :=
  (if (decide (g1.t5 < ((a0.length : Nat) : Int))) = true then
    (guardO (0 ≤ g1.t5 ∧ g1.t5 < (a0.length : Int)) <|
    ((laws_szDomain (nth a0 g1.t5.toNat) g1.t1).bind fun c3 =>
    (if (decide (c3 < 0)) = true then
      some (.inr (.inl ()))
    else
      some (.inl ⟨c3, (wI (g1.t5 + 1))⟩))))
  else
    some (.inr (.inr (⟨g1.t1⟩))))
noncomputable def laws_szDomainS (a0 : (List DomainT)) (a1 : Int) : Option Int :=
  (if (decide ((wI (a1 - ((a0.length : Nat) : Int))) < 0)) = true then
    some (-1)
  else
    ((loopF (laws_szDomainS_L1 a0) ⟨(wI (a1 - ((a0.length : Nat) : Int))), 0⟩).bind fun y4 =>
    match y4 with
    | .inl p5 =>
      some (-1)
    | .inr p6 =>
      some p6.t1))
noncomputable def laws_toDomain (a0 : DomainT) : Option DomainT :=
  some a0
structure laws_toDomainS_G1 where
  t4 : Int
  c0 : (List DomainT)
structure laws_toDomainS_P1_0 where
  c0 : (List DomainT)
noncomputable def laws_toDomainS_L1 (a0 : (List DomainT)) (g8 : laws_toDomainS_G1) : Option (laws_toDomainS_G1 ⊕ laws_toDomainS_P1_0) :=
  (if (decide (g8.t4 < ((a0.length : Nat) : Int))) = true then
    (guardO (0 ≤ g8.t4 ∧ g8.t4 < (a0.length : Int)) <|
    ((laws_toDomain (nth a0 g8.t4.toNat)).bind fun c10 =>
    (guardO (0 ≤ g8.t4 ∧ g8.t4 < ((g8.c0.length : Nat) : Int)) <|
    some (.inl ⟨(wI (g8.t4 + 1)), (g8.c0.set g8.t4.toNat c10)⟩))))
  else
    some (.inr (⟨g8.c0⟩)))
noncomputable def laws_toDomainS (a0 : (List DomainT)) : Option (List DomainT) :=
  (guardO (0 ≤ ((a0.length : Nat) : Int) ∧ ((a0.length : Nat) : Int) * 40 ≤ 281474976710656 ∧ ((a0.length : Nat) : Int) ≤ 9223372036854775807) <|
  ((loopF (laws_toDomainS_L1 a0) ⟨0, (List.replicate a0.length (⟨ByteArray.empty, 0, ByteArray.empty⟩ : DomainT))⟩).bind fun y11 =>
  some y11.c0))
structure spec_l1Name_G1 where
  t3 : Int
structure spec_l1Name_J14004 where
  t32 : Bool
noncomputable def spec_l1Name_L1 (a0 : ByteArray) (g14 : spec_l1Name_G1) : Option (spec_l1Name_G1 ⊕ (Unit ⊕ Unit)) :=
  (if (decide (g14.t3 < (a0.size : Int))) = true then
    (((guardO (0 ≤ g14.t3 ∧ g14.t3 < (a0.size : Int)) <|
      (if (decide ((bt a0 g14.t3) ≥ 97)) = true then
        (guardO (0 ≤ g14.t3 ∧ g14.t3 < (a0.size : Int)) <|
        (if (decide ((bt a0 g14.t3) ≤ 122)) = true then
          some (⟨false⟩ : spec_l1Name_J14004)
        else
          (guardO (0 ≤ g14.t3 ∧ g14.t3 < (a0.size : Int)) <|
          (if (decide ((bt a0 g14.t3) ≥ 48)) = true then
            (guardO (0 ≤ g14.t3 ∧ g14.t3 < (a0.size : Int)) <|
            some (⟨(!(decide ((bt a0 g14.t3) ≤ 57)))⟩ : spec_l1Name_J14004))
          else
            some (⟨true⟩ : spec_l1Name_J14004)))))
      else
        (guardO (0 ≤ g14.t3 ∧ g14.t3 < (a0.size : Int)) <|
        (if (decide ((bt a0 g14.t3) ≥ 48)) = true then
          (guardO (0 ≤ g14.t3 ∧ g14.t3 < (a0.size : Int)) <|
          some (⟨(!(decide ((bt a0 g14.t3) ≤ 57)))⟩ : spec_l1Name_J14004))
        else
          some (⟨true⟩ : spec_l1Name_J14004))))) : Option spec_l1Name_J14004).bind fun p16 =>
    (if p16.t32 = true then
      some (.inr (.inl ()))
    else
      some (.inl ⟨(wI (g14.t3 + 1))⟩)))
  else
    some (.inr (.inr ())))
noncomputable def spec_l1Name (a0 : ByteArray) : Option Bool :=
  ((loopF (spec_l1Name_L1 a0) ⟨0⟩).bind fun y17 =>
  match y17 with
  | .inl p18 =>
    some false
  | .inr p19 =>
    some (decide ((a0.size : Int) ≤ 12)))
noncomputable def spec_l13Version (a0 : Int) : Option Bool :=
  ((spec_l1In a0 0 1000000).bind fun c21 =>
  some c21)
structure spec_GoodDomains_G1 where
  t7 : Int
structure spec_GoodDomains_J14004 where
  t47 : Bool
noncomputable def spec_GoodDomains_L1 (a0 : (List DomainT)) (g13 : spec_GoodDomains_G1) : Option (spec_GoodDomains_G1 ⊕ (Unit ⊕ Unit)) :=
  (if (decide (g13.t7 < ((a0.length : Nat) : Int))) = true then
    (guardO (0 ≤ g13.t7 ∧ g13.t7 < (a0.length : Int)) <|
    ((((spec_l1Name ((nth a0 g13.t7.toNat).Name)).bind fun c24 =>
      (if (!c24) = true then
        some (⟨true⟩ : spec_GoodDomains_J14004)
      else
        (if (((nth a0 g13.t7.toNat).Name).toList == ByteArray.empty.toList) = true then
          some (⟨true⟩ : spec_GoodDomains_J14004)
        else
          ((spec_l13Version ((nth a0 g13.t7.toNat).Version)).bind fun c25 =>
          (if (!c25) = true then
            some (⟨true⟩ : spec_GoodDomains_J14004)
          else
            (if (decide ((((nth a0 g13.t7.toNat).Note).size : Int) > 20)) = true then
              some (⟨true⟩ : spec_GoodDomains_J14004)
            else
              (if (decide (g13.t7 > 0)) = true then
                (guardO (0 ≤ (wI (g13.t7 - 1)) ∧ (wI (g13.t7 - 1)) < (a0.length : Int)) <|
                some (⟨(!sLt ((nth a0 ((wI (g13.t7 - 1)).toNat)).Name) ((nth a0 g13.t7.toNat).Name))⟩ : spec_GoodDomains_J14004))
              else
                some (⟨false⟩ : spec_GoodDomains_J14004)))))))) : Option spec_GoodDomains_J14004).bind fun p26 =>
    (if p26.t47 = true then
      some (.inr (.inl ()))
    else
      some (.inl ⟨(wI (g13.t7 + 1))⟩))))
  else
    some (.inr (.inr ())))
noncomputable def spec_GoodDomains (a0 : (List DomainT)) : Option Bool :=
  ((loopF (spec_GoodDomains_L1 a0) ⟨0⟩).bind fun y27 =>
  match y27 with
  | .inl p28 =>
    some false
  | .inr p29 =>
    some (decide (((a0.length : Nat) : Int) ≤ 12)))
noncomputable def strings_Trim (a0 : ByteArray) (a1 : ByteArray) : Option ByteArray :=
  guardO (a0.size ≤ 9223372036854775807 ∧ a1.size < 4294967281 ∧ a1.data.toList.all (fun b => decide (b.toNat < 128)) = true) (some (trimB a0 a1))
noncomputable def impl_goodName (a0 : ByteArray) : Option Bool :=
  (if (decide ((a0.size : Int) ≤ 12)) = true then
    ((strings_Trim a0 (⟨#[97, 98, 99, 100, 101, 102, 103, 104, 105, 106, 107, 108, 109, 110, 111, 112, 113, 114, 115, 116, 117, 118, 119, 120, 121, 122, 48, 49, 50, 51, 52, 53, 54, 55, 56, 57]⟩ : ByteArray)).bind fun c33 =>
    some (c33.toList == ByteArray.empty.toList))
  else
    some false)
noncomputable def impl_isVersion (a0 : Int) : Option Bool :=
  ((impl_in a0 0 1000000).bind fun c35 =>
  some c35)
structure impl_GoodDomains_G1 where
  t10 : Int
structure impl_GoodDomains_J14006 where
  t50 : Bool
noncomputable def impl_GoodDomains_L1 (a0 : (List DomainT)) (g32 : impl_GoodDomains_G1) : Option (impl_GoodDomains_G1 ⊕ (Unit ⊕ Unit)) :=
  (if (decide (g32.t10 < ((a0.length : Nat) : Int))) = true then
    (guardO (0 ≤ g32.t10 ∧ g32.t10 < (a0.length : Int)) <|
    (((if (((nth a0 g32.t10.toNat).Name).toList == ByteArray.empty.toList) = true then
        some (⟨true⟩ : impl_GoodDomains_J14006)
      else
        ((impl_goodName ((nth a0 g32.t10.toNat).Name)).bind fun c38 =>
        (if (!c38) = true then
          some (⟨true⟩ : impl_GoodDomains_J14006)
        else
          ((impl_isVersion ((nth a0 g32.t10.toNat).Version)).bind fun c39 =>
          (if (!c39) = true then
            some (⟨true⟩ : impl_GoodDomains_J14006)
          else
            (if (decide ((((nth a0 g32.t10.toNat).Note).size : Int) > 20)) = true then
              some (⟨true⟩ : impl_GoodDomains_J14006)
            else
              (if (decide (g32.t10 > 0)) = true then
                (guardO (0 ≤ (wI (g32.t10 - 1)) ∧ (wI (g32.t10 - 1)) < (a0.length : Int)) <|
                some (⟨(!sLt ((nth a0 ((wI (g32.t10 - 1)).toNat)).Name) ((nth a0 g32.t10.toNat).Name))⟩ : impl_GoodDomains_J14006))
              else
                some (⟨false⟩ : impl_GoodDomains_J14006)))))))) : Option impl_GoodDomains_J14006).bind fun p40 =>
    (if p40.t50 = true then
      some (.inr (.inl ()))
    else
      some (.inl ⟨(wI (g32.t10 + 1))⟩))))
  else
    some (.inr (.inr ())))
noncomputable def impl_GoodDomains (a0 : (List DomainT)) : Option Bool :=
  (if (decide (((a0.length : Nat) : Int) > 12)) = true then
    some false
  else
    ((loopF (impl_GoodDomains_L1 a0) ⟨0⟩).bind fun y41 =>
    match y41 with
    | .inl p42 =>
      some false
    | .inr p43 =>
      some true))
noncomputable def laws_eqDomain (a0 : DomainT) (a1 : DomainT) : Option Bool :=
  (if (!(a0.Name.toList == a1.Name.toList)) = true then
    some false
  else
    (if (a0.Version != a1.Version) = true then
      some false
    else
      (if (!(a0.Note.toList == a1.Note.toList)) = true then
        some false
      else
        some true)))
structure laws_eqDomainS_G1 where
  t5 : Int
noncomputable def laws_eqDomainS_L1 (a0 : (List DomainT)) (a1 : (List DomainT)) (g46 : laws_eqDomainS_G1) : Option (laws_eqDomainS_G1 ⊕ (Unit ⊕ Unit)) :=
  (if (decide (g46.t5 < ((a0.length : Nat) : Int))) = true then
    (guardO (0 ≤ g46.t5 ∧ g46.t5 < (a0.length : Int)) <|
    (guardO (0 ≤ g46.t5 ∧ g46.t5 < (a1.length : Int)) <|
    ((laws_eqDomain (nth a0 g46.t5.toNat) (nth a1 g46.t5.toNat)).bind fun c48 =>
    (if (!c48) = true then
      some (.inr (.inl ()))
    else
      some (.inl ⟨(wI (g46.t5 + 1))⟩)))))
  else
    some (.inr (.inr ())))
noncomputable def laws_eqDomainS (a0 : (List DomainT)) (a1 : (List DomainT)) : Option Bool :=
  (if (((a0.length : Nat) : Int) != ((a1.length : Nat) : Int)) = true then
    some false
  else
    ((loopF (laws_eqDomainS_L1 a0 a1) ⟨0⟩).bind fun y49 =>
    match y49 with
    | .inl p50 =>
      some false
    | .inr p51 =>
      some true))
noncomputable def laws_FnExactGoodDomains (a0 : (List DomainT)) : Option Bool :=
  ((laws_szDomainS a0 1048576).bind fun c7 =>
  (if (decide (c7 < 0)) = true then
    some true
  else
    ((laws_toDomainS a0).bind fun c12 =>
    ((spec_GoodDomains c12).bind fun c30 =>
    ((laws_toDomainS a0).bind fun c31 =>
    ((impl_GoodDomains c31).bind fun c44 =>
    (if (!(c44 == c30)) = true then
      some false
    else
      ((laws_toDomainS a0).bind fun c45 =>
      ((laws_eqDomainS c31 c45).bind fun c52 =>
      (if (!c52) = true then
        some false
      else
        some true))))))))))
structure spec_LeaderOf_G1 where
  t13 : Int
structure spec_LeaderOf_P1_0 where
  t4 : Int
noncomputable def spec_LeaderOf_L1 (a0 : (List DomainT)) (a1 : ByteArray) (g56 : spec_LeaderOf_G1) : Option (spec_LeaderOf_G1 ⊕ (spec_LeaderOf_P1_0 ⊕ Unit)) :=
  (if (decide (g56.t13 < ((a0.length : Nat) : Int))) = true then
    (guardO (0 ≤ g56.t13 ∧ g56.t13 < (a0.length : Int)) <|
    (if (((nth a0 g56.t13.toNat).Name).toList == a1.toList) = true then
      some (.inr (.inl (⟨(((nth a0 g56.t13.toNat).Version).tmod 10)⟩)))
    else
      some (.inl ⟨(wI (g56.t13 + 1))⟩)))
  else
    some (.inr (.inr ())))
noncomputable def spec_LeaderOf (a0 : (List DomainT)) (a1 : ByteArray) : Option (Int × Bool) :=
  ((spec_GoodDomains a0).bind fun c55 =>
  (if (!c55) = true then
    some (0, false)
  else
    ((loopF (spec_LeaderOf_L1 a0 a1) ⟨0⟩).bind fun y57 =>
    match y57 with
    | .inl p58 =>
      some (p58.t4, true)
    | .inr p59 =>
      some (0, false))))
noncomputable def impl_domainAt_c1_r (a0 : DomainT) (a1 : ByteArray) : Option Bool :=
  some (a0.Name.toList == a1.toList)
structure slices_IndexFunc_impl_Domain_impl_domainAt_c1r_G1 where
  t8 : Int
structure slices_IndexFunc_impl_Domain_impl_domainAt_c1r_P1_0 where
  t4 : Int
noncomputable def slices_IndexFunc_impl_Domain_impl_domainAt_c1r_L1 (a0 : (List DomainT)) (a1 : ByteArray) (g62 : slices_IndexFunc_impl_Domain_impl_domainAt_c1r_G1) : Option (slices_IndexFunc_impl_Domain_impl_domainAt_c1r_G1 ⊕ (slices_IndexFunc_impl_Domain_impl_domainAt_c1r_P1_0 ⊕ Unit)) :=
  (if (decide (g62.t8 < ((a0.length : Nat) : Int))) = true then
    (guardO (0 ≤ g62.t8 ∧ g62.t8 < (a0.length : Int)) <|
    ((impl_domainAt_c1_r (nth a0 g62.t8.toNat) a1).bind fun c64 =>
    (if c64 = true then
      some (.inr (.inl (⟨g62.t8⟩)))
    else
      some (.inl ⟨(wI (g62.t8 + 1))⟩))))
  else
    some (.inr (.inr ())))
noncomputable def slices_IndexFunc_impl_Domain_impl_domainAt_c1r (a0 : (List DomainT)) (a1 : ByteArray) : Option Int :=
  ((loopF (slices_IndexFunc_impl_Domain_impl_domainAt_c1r_L1 a0 a1) ⟨0⟩).bind fun y65 =>
  match y65 with
  | .inl p66 =>
    some p66.t4
  | .inr p67 =>
    some (-1))
noncomputable def impl_domainAt (a0 : (List DomainT)) (a1 : ByteArray) : Option Int :=
  ((slices_IndexFunc_impl_Domain_impl_domainAt_c1r a0 a1).bind fun c68 =>
  some c68)
noncomputable def impl_RegionOf (a0 : Int) : Option (Int × Bool) :=
  ((impl_isVersion a0).bind fun c72 =>
  (if (!c72) = true then
    some (0, false)
  else
    some ((a0.tmod 10), true)))
structure impl_LeaderOf_J4002 where
  t16 : Bool
noncomputable def impl_LeaderOf (a0 : (List DomainT)) (a1 : ByteArray) : Option (Int × Bool) :=
  ((impl_domainAt a0 a1).bind fun c69 =>
  ((((impl_GoodDomains a0).bind fun c70 =>
    (if (!c70) = true then
      some (⟨true⟩ : impl_LeaderOf_J4002)
    else
      some (⟨(decide (c69 < 0))⟩ : impl_LeaderOf_J4002))) : Option impl_LeaderOf_J4002).bind fun p71 =>
  (if p71.t16 = true then
    some (0, false)
  else
    (guardO (0 ≤ c69 ∧ c69 < (a0.length : Int)) <|
    ((impl_RegionOf ((nth a0 c69.toNat).Version)).bind fun c73 =>
    some (c73.1, c73.2))))))
structure laws_FnExactLeaderOf_J4010 where
  t41 : Bool
noncomputable def laws_FnExactLeaderOf (a0 : (List DomainT)) (a1 : ByteArray) : Option Bool :=
  (if (decide ((a1.size : Int) > 1048576)) = true then
    some true
  else
    ((laws_szDomainS a0 1048576).bind fun c53 =>
    (if (decide (c53 < 0)) = true then
      some true
    else
      ((laws_toDomainS a0).bind fun c54 =>
      ((spec_LeaderOf c54 a1).bind fun c60 =>
      ((laws_toDomainS a0).bind fun c61 =>
      ((impl_LeaderOf c61 a1).bind fun c74 =>
      (((if (c74.1 != c60.1) = true then
          some (⟨true⟩ : laws_FnExactLeaderOf_J4010)
        else
          some (⟨(!(c74.2 == c60.2))⟩ : laws_FnExactLeaderOf_J4010)) : Option laws_FnExactLeaderOf_J4010).bind fun p75 =>
      (if p75.t41 = true then
        some false
      else
        ((laws_toDomainS a0).bind fun c76 =>
        ((laws_eqDomainS c61 c76).bind fun c77 =>
        (if (!c77) = true then
          some false
        else
          some true))))))))))))
noncomputable def spec_l13Less (a0 : DomainT) (a1 : DomainT) : Option Bool :=
  (if (decide (a0.Version < a1.Version)) = true then
    some true
  else
    (if (a0.Version == a1.Version) = true then
      some (sLt a0.Note a1.Note)
    else
      some false))
structure spec_KnowsAll_J4001 where
  t18 : Bool
structure spec_KnowsAll_G1 where
  t21 : Int
structure spec_KnowsAll_G2 where
  t8 : Bool
  t27 : Int
structure spec_KnowsAll_P2_0 where
  t8 : Bool
noncomputable def spec_KnowsAll_L2 (a1 : (List DomainT)) (a0 : (List DomainT)) (g85 : spec_KnowsAll_G1) (g90 : spec_KnowsAll_G2) : Option (spec_KnowsAll_G2 ⊕ spec_KnowsAll_P2_0) :=
  (if (decide (g90.t27 < ((a1.length : Nat) : Int))) = true then
    (guardO (0 ≤ g90.t27 ∧ g90.t27 < (a1.length : Int)) <|
    (if g90.t8 = true then
      some (.inl ⟨true, (wI (g90.t27 + 1))⟩)
    else
      (if (((nth a1 g90.t27.toNat).Name).toList == ((nth a0 g85.t21.toNat).Name).toList) = true then
        ((spec_l13Less (nth a1 g90.t27.toNat) (nth a0 g85.t21.toNat)).bind fun c92 =>
        some (.inl ⟨(!c92), (wI (g90.t27 + 1))⟩))
      else
        some (.inl ⟨false, (wI (g90.t27 + 1))⟩))))
  else
    some (.inr (⟨g90.t8⟩)))
noncomputable def spec_KnowsAll_L1 (a0 : (List DomainT)) (a1 : (List DomainT)) (g85 : spec_KnowsAll_G1) : Option (spec_KnowsAll_G1 ⊕ (Unit ⊕ Unit)) :=
  (if (decide (g85.t21 < ((a0.length : Nat) : Int))) = true then
    (guardO (0 ≤ g85.t21 ∧ g85.t21 < (a0.length : Int)) <|
    ((loopF (spec_KnowsAll_L2 a1 a0 g85) ⟨false, 0⟩).bind fun y93 =>
    (if (!y93.t8) = true then
      some (.inr (.inl ()))
    else
      some (.inl ⟨(wI (g85.t21 + 1))⟩))))
  else
    some (.inr (.inr ())))
noncomputable def spec_KnowsAll (a0 : (List DomainT)) (a1 : (List DomainT)) : Option (Bool × Bool) :=
  ((((spec_GoodDomains a0).bind fun c82 =>
    (if (!c82) = true then
      some (⟨true⟩ : spec_KnowsAll_J4001)
    else
      ((spec_GoodDomains a1).bind fun c83 =>
      some (⟨(!c83)⟩ : spec_KnowsAll_J4001)))) : Option spec_KnowsAll_J4001).bind fun p84 =>
  (if p84.t18 = true then
    some (false, false)
  else
    ((loopF (spec_KnowsAll_L1 a0 a1) ⟨0⟩).bind fun y94 =>
    match y94 with
    | .inl p95 =>
      some (false, true)
    | .inr p96 =>
      some (true, true))))
noncomputable def cmp_isNaN_int (a0 : Int) : Option Bool :=
  some (a0 != a0)
noncomputable def cmp_Compare_int (a0 : Int) (a1 : Int) : Option Int :=
  ((cmp_isNaN_int a0).bind fun c105 =>
  ((cmp_isNaN_int a1).bind fun c106 =>
  (if c105 = true then
    (if c106 = true then
      some 0
    else
      some (-1))
  else
    (if c106 = true then
      some 1
    else
      (if (decide (a0 < a1)) = true then
        some (-1)
      else
        (if (decide (a0 > a1)) = true then
          some 1
        else
          some 0))))))
noncomputable def cmp_isNaN_string (a0 : ByteArray) : Option Bool :=
  some (!(a0.toList == a0.toList))
noncomputable def cmp_Compare_string (a0 : ByteArray) (a1 : ByteArray) : Option Int :=
  ((cmp_isNaN_string a0).bind fun c108 =>
  ((cmp_isNaN_string a1).bind fun c109 =>
  (if c108 = true then
    (if c109 = true then
      some 0
    else
      some (-1))
  else
    (if c109 = true then
      some 1
    else
      (if (sLt a0 a1) = true then
        some (-1)
      else
        (if (!(sLt a0 a1 || a0.toList == a1.toList)) = true then
          some 1
        else
          some 0))))))
structure cmp_Or_int_G1 where
  t8 : Int
structure cmp_Or_int_P1_0 where
  t2 : Int
noncomputable def cmp_Or_int_L1 (a0 : (List Int)) (g111 : cmp_Or_int_G1) : Option (cmp_Or_int_G1 ⊕ (cmp_Or_int_P1_0 ⊕ Unit)) :=
  (if (decide (g111.t8 < ((a0.length : Nat) : Int))) = true then
    (guardO (0 ≤ g111.t8 ∧ g111.t8 < (a0.length : Int)) <|
    (if ((nth a0 g111.t8.toNat) != 0) = true then
      some (.inr (.inl (⟨(nth a0 g111.t8.toNat)⟩)))
    else
      some (.inl ⟨(wI (g111.t8 + 1))⟩)))
  else
    some (.inr (.inr ())))
noncomputable def cmp_Or_int (a0 : (List Int)) : Option Int :=
  ((loopF (cmp_Or_int_L1 a0) ⟨0⟩).bind fun y112 =>
  match y112 with
  | .inl p113 =>
    some p113.t2
  | .inr p114 =>
    some 0)
noncomputable def impl_greater (a0 : DomainT) (a1 : DomainT) : Option Int :=
  ((cmp_Compare_int a0.Version a1.Version).bind fun c107 =>
  ((cmp_Compare_string a0.Note a1.Note).bind fun c110 =>
  ((cmp_Or_int ([c107, c110])).bind fun c115 =>
  some c115)))
noncomputable def impl_KnowsAll_c1_r (a0 : DomainT) (a1 : (List DomainT)) : Option Bool :=
  ((impl_domainAt a1 a0.Name).bind fun c104 =>
  (if (decide (c104 < 0)) = true then
    some true
  else
    (guardO (0 ≤ c104 ∧ c104 < (a1.length : Int)) <|
    ((impl_greater (nth a1 c104.toNat) a0).bind fun c116 =>
    some (decide (c116 < 0))))))
structure slices_IndexFunc_impl_Domain_impl_KnowsAll_c1r_G1 where
  t8 : Int
structure slices_IndexFunc_impl_Domain_impl_KnowsAll_c1r_P1_0 where
  t4 : Int
noncomputable def slices_IndexFunc_impl_Domain_impl_KnowsAll_c1r_L1 (a0 : (List DomainT)) (a1 : (List DomainT)) (g103 : slices_IndexFunc_impl_Domain_impl_KnowsAll_c1r_G1) : Option (slices_IndexFunc_impl_Domain_impl_KnowsAll_c1r_G1 ⊕ (slices_IndexFunc_impl_Domain_impl_KnowsAll_c1r_P1_0 ⊕ Unit)) :=
  (if (decide (g103.t8 < ((a0.length : Nat) : Int))) = true then
    (guardO (0 ≤ g103.t8 ∧ g103.t8 < (a0.length : Int)) <|
    ((impl_KnowsAll_c1_r (nth a0 g103.t8.toNat) a1).bind fun c118 =>
    (if c118 = true then
      some (.inr (.inl (⟨g103.t8⟩)))
    else
      some (.inl ⟨(wI (g103.t8 + 1))⟩))))
  else
    some (.inr (.inr ())))
noncomputable def slices_IndexFunc_impl_Domain_impl_KnowsAll_c1r (a0 : (List DomainT)) (a1 : (List DomainT)) : Option Int :=
  ((loopF (slices_IndexFunc_impl_Domain_impl_KnowsAll_c1r_L1 a0 a1) ⟨0⟩).bind fun y119 =>
  match y119 with
  | .inl p120 =>
    some p120.t4
  | .inr p121 =>
    some (-1))
noncomputable def slices_ContainsFunc_impl_Domain_impl_KnowsAll_c1r (a0 : (List DomainT)) (a1 : (List DomainT)) : Option Bool :=
  ((slices_IndexFunc_impl_Domain_impl_KnowsAll_c1r a0 a1).bind fun c122 =>
  some (decide (c122 ≥ 0)))
structure impl_KnowsAll_J4001 where
  t13 : Bool
noncomputable def impl_KnowsAll (a0 : (List DomainT)) (a1 : (List DomainT)) : Option (Bool × Bool) :=
  ((((impl_GoodDomains a0).bind fun c100 =>
    (if (!c100) = true then
      some (⟨true⟩ : impl_KnowsAll_J4001)
    else
      ((impl_GoodDomains a1).bind fun c101 =>
      some (⟨(!c101)⟩ : impl_KnowsAll_J4001)))) : Option impl_KnowsAll_J4001).bind fun p102 =>
  (if p102.t13 = true then
    some (false, false)
  else
    ((slices_ContainsFunc_impl_Domain_impl_KnowsAll_c1r a0 a1).bind fun c123 =>
    some ((!c123), true))))
structure laws_FnExactKnowsAll_J4012 where
  t47 : Bool
noncomputable def laws_FnExactKnowsAll (a0 : (List DomainT)) (a1 : (List DomainT)) : Option Bool :=
  ((laws_szDomainS a0 1048576).bind fun c78 =>
  (if (decide (c78 < 0)) = true then
    some true
  else
    ((laws_szDomainS a1 c78).bind fun c79 =>
    (if (decide (c79 < 0)) = true then
      some true
    else
      ((laws_toDomainS a0).bind fun c80 =>
      ((laws_toDomainS a1).bind fun c81 =>
      ((spec_KnowsAll c80 c81).bind fun c97 =>
      ((laws_toDomainS a0).bind fun c98 =>
      ((laws_toDomainS a1).bind fun c99 =>
      ((impl_KnowsAll c98 c99).bind fun c124 =>
      (((if (!(c124.1 == c97.1)) = true then
          some (⟨true⟩ : laws_FnExactKnowsAll_J4012)
        else
          some (⟨(!(c124.2 == c97.2))⟩ : laws_FnExactKnowsAll_J4012)) : Option laws_FnExactKnowsAll_J4012).bind fun p125 =>
      (if p125.t47 = true then
        some false
      else
        ((laws_toDomainS a0).bind fun c126 =>
        ((laws_eqDomainS c98 c126).bind fun c127 =>
        (if (!c127) = true then
          some false
        else
          ((laws_toDomainS a1).bind fun c128 =>
          ((laws_eqDomainS c99 c128).bind fun c129 =>
          (if (!c129) = true then
            some false
          else
            some true))))))))))))))))))
noncomputable def spec_l13Next (a0 : Int) (a1 : Int) : Option Int :=
  (if (decide ((wI ((wI (a0 - (a0.tmod 10))) + a1)) ≤ a0)) = true then
    some (wI ((wI ((wI (a0 - (a0.tmod 10))) + a1)) + 10))
  else
    some (wI ((wI (a0 - (a0.tmod 10))) + a1)))
structure spec_NextVersion_J4001 where
  t14 : Bool
noncomputable def spec_NextVersion (a0 : Int) (a1 : Int) : Option (Int × Bool) :=
  ((((spec_l13Version a0).bind fun c134 =>
    (if (!c134) = true then
      some (⟨true⟩ : spec_NextVersion_J4001)
    else
      ((spec_l1In a1 0 9).bind fun c135 =>
      some (⟨(!c135)⟩ : spec_NextVersion_J4001)))) : Option spec_NextVersion_J4001).bind fun p136 =>
  (if p136.t14 = true then
    some (0, false)
  else
    ((spec_l13Next a0 a1).bind fun c137 =>
    ((spec_l13Version c137).bind fun c138 =>
    (if (!c138) = true then
      some (0, false)
    else
      some (c137, true))))))
structure spec_FailOver_G1 where
  t21 : Int
structure spec_FailOver_P1_0 where
  t7 : Bool
  c0 : (List DomainT)
noncomputable def spec_FailOver_L1 (a0 : (List DomainT)) (a1 : ByteArray) (a2 : Int) (g133 : spec_FailOver_G1) : Option (spec_FailOver_G1 ⊕ (spec_FailOver_P1_0 ⊕ Unit)) :=
  (if (decide (g133.t21 < ((a0.length : Nat) : Int))) = true then
    (guardO (0 ≤ g133.t21 ∧ g133.t21 < ((a0.length : Nat) : Int)) <|
    (if (((nth (([]) ++ a0) g133.t21.toNat).Name).toList == a1.toList) = true then
      ((spec_NextVersion ((nth (([]) ++ a0) g133.t21.toNat).Version) a2).bind fun c140 =>
      (if (!c140.2) = true then
        some (.inr (.inl (⟨false, []⟩)))
      else
        (guardO (0 ≤ g133.t21 ∧ g133.t21 < ((a0.length : Nat) : Int)) <|
        some (.inr (.inl (⟨true, ((([]) ++ a0).set g133.t21.toNat (⟨(nth (([]) ++ a0) g133.t21.toNat).Name, c140.1, (nth (([]) ++ a0) g133.t21.toNat).Note⟩ : DomainT))⟩))))))
    else
      some (.inl ⟨(wI (g133.t21 + 1))⟩)))
  else
    some (.inr (.inr ())))
noncomputable def spec_FailOver (a0 : (List DomainT)) (a1 : ByteArray) (a2 : Int) : Option ((List DomainT) × Bool) :=
  ((spec_GoodDomains a0).bind fun c132 =>
  (if (!c132) = true then
    some ([], false)
  else
    (guardO (a0.length * 40 ≤ 140737488355328) <|
    ((loopF (spec_FailOver_L1 a0 a1 a2) ⟨0⟩).bind fun y141 =>
    match y141 with
    | .inl p142 =>
      some (p142.c0, p142.t7)
    | .inr p143 =>
      some ([], false)))))
noncomputable def impl_isRegion (a0 : Int) : Option Bool :=
  ((impl_in a0 0 9).bind fun c150 =>
  some c150)
structure impl_NextVersion_J4001 where
  t14 : Bool
structure impl_NextVersion_J2023 where
  t6 : Int
noncomputable def impl_NextVersion (a0 : Int) (a1 : Int) : Option (Int × Bool) :=
  ((((impl_isVersion a0).bind fun c149 =>
    (if (!c149) = true then
      some (⟨true⟩ : impl_NextVersion_J4001)
    else
      ((impl_isRegion a1).bind fun c151 =>
      some (⟨(!c151)⟩ : impl_NextVersion_J4001)))) : Option impl_NextVersion_J4001).bind fun p152 =>
  (if p152.t14 = true then
    some (0, false)
  else
    (((if (decide ((wI ((wI (a0 - (a0.tmod 10))) + a1)) ≤ a0)) = true then
        some (⟨(wI ((wI ((wI (a0 - (a0.tmod 10))) + a1)) + 10))⟩ : impl_NextVersion_J2023)
      else
        some (⟨(wI ((wI (a0 - (a0.tmod 10))) + a1))⟩ : impl_NextVersion_J2023)) : Option impl_NextVersion_J2023).bind fun p153 =>
    ((impl_isVersion p153.t6).bind fun c154 =>
    (if (!c154) = true then
      some (0, false)
    else
      some (p153.t6, true))))))
noncomputable def slices_Clone_impl_Domain (a0 : (List DomainT)) : Option (List DomainT) :=
  guardO (a0.length * 40 ≤ 140737488355328) (some a0)
structure impl_FailOver_J4002 where
  t21 : Bool
noncomputable def impl_FailOver (a0 : (List DomainT)) (a1 : ByteArray) (a2 : Int) : Option ((List DomainT) × Bool) :=
  ((impl_domainAt a0 a1).bind fun c146 =>
  ((((impl_GoodDomains a0).bind fun c147 =>
    (if (!c147) = true then
      some (⟨true⟩ : impl_FailOver_J4002)
    else
      some (⟨(decide (c146 < 0))⟩ : impl_FailOver_J4002))) : Option impl_FailOver_J4002).bind fun p148 =>
  (if p148.t21 = true then
    some ([], false)
  else
    (guardO (0 ≤ c146 ∧ c146 < (a0.length : Int)) <|
    ((impl_NextVersion ((nth a0 c146.toNat).Version) a2).bind fun c155 =>
    (if (!c155.2) = true then
      some ([], false)
    else
      ((slices_Clone_impl_Domain a0).bind fun c156 =>
      (guardO (0 ≤ c146 ∧ c146 < ((c156.length : Nat) : Int)) <|
      some ((c156.set c146.toNat (⟨(nth c156 c146.toNat).Name, c155.1, (nth c156 c146.toNat).Note⟩ : DomainT)), true)))))))))
structure laws_markDomainS_w_G1 where
  t1 : Int
  t5 : Int
  c0 : (List DomainT)
structure laws_markDomainS_w_P1_0 where
  t1 : Int
  c0 : (List DomainT)
noncomputable def laws_markDomainS_w_L1 (g166 : laws_markDomainS_w_G1) : Option (laws_markDomainS_w_G1 ⊕ laws_markDomainS_w_P1_0) :=
  (if (decide (g166.t5 < ((g166.c0.length : Nat) : Int))) = true then
    ((laws_markText g166.t1).bind fun c169 =>
    (guardO (0 ≤ g166.t5 ∧ g166.t5 < ((g166.c0.length : Nat) : Int)) <|
    (guardO (0 ≤ g166.t5 ∧ g166.t5 < ((g166.c0.length : Nat) : Int)) <|
    ((laws_markText (wI ((wI (g166.t1 + 1)) + 1))).bind fun c170 =>
    (guardO (0 ≤ g166.t5 ∧ g166.t5 < ((g166.c0.length : Nat) : Int)) <|
    some (.inl ⟨(wI ((wI ((wI (g166.t1 + 1)) + 1)) + 1)), (wI (g166.t5 + 1)), (((g166.c0.set g166.t5.toNat (⟨c169, (nth g166.c0 g166.t5.toNat).Version, (nth g166.c0 g166.t5.toNat).Note⟩ : DomainT)).set g166.t5.toNat (⟨(nth (g166.c0.set g166.t5.toNat (⟨c169, (nth g166.c0 g166.t5.toNat).Version, (nth g166.c0 g166.t5.toNat).Note⟩ : DomainT)) g166.t5.toNat).Name, (wI (g166.t1 + 1)), (nth (g166.c0.set g166.t5.toNat (⟨c169, (nth g166.c0 g166.t5.toNat).Version, (nth g166.c0 g166.t5.toNat).Note⟩ : DomainT)) g166.t5.toNat).Note⟩ : DomainT)).set g166.t5.toNat (⟨(nth ((g166.c0.set g166.t5.toNat (⟨c169, (nth g166.c0 g166.t5.toNat).Version, (nth g166.c0 g166.t5.toNat).Note⟩ : DomainT)).set g166.t5.toNat (⟨(nth (g166.c0.set g166.t5.toNat (⟨c169, (nth g166.c0 g166.t5.toNat).Version, (nth g166.c0 g166.t5.toNat).Note⟩ : DomainT)) g166.t5.toNat).Name, (wI (g166.t1 + 1)), (nth (g166.c0.set g166.t5.toNat (⟨c169, (nth g166.c0 g166.t5.toNat).Version, (nth g166.c0 g166.t5.toNat).Note⟩ : DomainT)) g166.t5.toNat).Note⟩ : DomainT)) g166.t5.toNat).Name, (nth ((g166.c0.set g166.t5.toNat (⟨c169, (nth g166.c0 g166.t5.toNat).Version, (nth g166.c0 g166.t5.toNat).Note⟩ : DomainT)).set g166.t5.toNat (⟨(nth (g166.c0.set g166.t5.toNat (⟨c169, (nth g166.c0 g166.t5.toNat).Version, (nth g166.c0 g166.t5.toNat).Note⟩ : DomainT)) g166.t5.toNat).Name, (wI (g166.t1 + 1)), (nth (g166.c0.set g166.t5.toNat (⟨c169, (nth g166.c0 g166.t5.toNat).Version, (nth g166.c0 g166.t5.toNat).Note⟩ : DomainT)) g166.t5.toNat).Note⟩ : DomainT)) g166.t5.toNat).Version, c170⟩ : DomainT))⟩))))))
  else
    some (.inr (⟨g166.t1, g166.c0⟩)))
noncomputable def laws_markDomainS_w (a0 : (List DomainT)) (a1 : Int) : Option (Int × (List DomainT)) :=
  ((loopF (laws_markDomainS_w_L1) ⟨a1, 0, a0⟩).bind fun y171 =>
  some (y171.t1, y171.c0))
structure laws_heldDomainS_G1 where
  t1 : Int
  t5 : Int
structure laws_heldDomainS_P1_1 where
  t1 : Int
noncomputable def laws_heldDomainS_L1 (a0 : (List DomainT)) (g176 : laws_heldDomainS_G1) : Option (laws_heldDomainS_G1 ⊕ (Unit ⊕ laws_heldDomainS_P1_1)) :=
  (if (decide (g176.t5 < ((a0.length : Nat) : Int))) = true then
    (guardO (0 ≤ g176.t5 ∧ g176.t5 < (a0.length : Int)) <|
    ((laws_markText g176.t1).bind fun c179 =>
    (if (!(((nth a0 g176.t5.toNat).Name).toList == c179.toList)) = true then
      some (.inr (.inl ()))
    else
      (guardO (0 ≤ g176.t5 ∧ g176.t5 < (a0.length : Int)) <|
      (if (((nth a0 g176.t5.toNat).Version) != (wI (g176.t1 + 1))) = true then
        some (.inr (.inl ()))
      else
        (guardO (0 ≤ g176.t5 ∧ g176.t5 < (a0.length : Int)) <|
        ((laws_markText (wI ((wI (g176.t1 + 1)) + 1))).bind fun c180 =>
        (if (!(((nth a0 g176.t5.toNat).Note).toList == c180.toList)) = true then
          some (.inr (.inl ()))
        else
          some (.inl ⟨(wI ((wI ((wI (g176.t1 + 1)) + 1)) + 1)), (wI (g176.t5 + 1))⟩)))))))))
  else
    some (.inr (.inr (⟨g176.t1⟩))))
noncomputable def laws_heldDomainS (a0 : (List DomainT)) (a1 : Int) : Option Int :=
  ((loopF (laws_heldDomainS_L1 a0) ⟨a1, 0⟩).bind fun y181 =>
  match y181 with
  | .inl p182 =>
    some (-1)
  | .inr p183 =>
    some p183.t1)
structure laws_FnExactFailOver_J4010 where
  t51 : Bool
structure laws_FnExactFailOver_J4016 where
  t72 : Bool
structure laws_FnExactFailOver_J4027 where
  t100 : Bool
noncomputable def laws_FnExactFailOver (a0 : (List DomainT)) (a1 : ByteArray) (a2 : Int) : Option Bool :=
  (if (decide ((a1.size : Int) > 1048576)) = true then
    some true
  else
    ((laws_szDomainS a0 1048576).bind fun c130 =>
    (if (decide (c130 < 0)) = true then
      some true
    else
      ((laws_toDomainS a0).bind fun c131 =>
      ((spec_FailOver c131 a1 a2).bind fun c144 =>
      ((laws_toDomainS a0).bind fun c145 =>
      ((impl_FailOver c145 a1 a2).bind fun c157 =>
      ((((laws_eqDomainS c157.1 c144.1).bind fun c158 =>
        (if (!c158) = true then
          some (⟨true⟩ : laws_FnExactFailOver_J4010)
        else
          some (⟨(!(c157.2 == c144.2))⟩ : laws_FnExactFailOver_J4010))) : Option laws_FnExactFailOver_J4010).bind fun p159 =>
      (if p159.t51 = true then
        some false
      else
        ((laws_toDomainS a0).bind fun c160 =>
        ((laws_eqDomainS c145 c160).bind fun c161 =>
        (if (!c161) = true then
          some false
        else
          ((laws_markDomainS_w c145 1).bind fun c172 =>
          (guardO (c172.2.length = c145.length) <|
          (((if (decide (c172.1 < 0)) = true then
              some (⟨true⟩ : laws_FnExactFailOver_J4016)
            else
              ((laws_eqDomainS c157.1 c144.1).bind fun c173 =>
              (if (!c173) = true then
                some (⟨true⟩ : laws_FnExactFailOver_J4016)
              else
                some (⟨(!(c157.2 == c144.2))⟩ : laws_FnExactFailOver_J4016)))) : Option laws_FnExactFailOver_J4016).bind fun p174 =>
          (if p174.t72 = true then
            some false
          else
            ((laws_markDomainS_w c157.1 1).bind fun c175 =>
            (guardO (c175.2.length = c157.1.length) <|
            ((laws_heldDomainS c175.2 1).bind fun c184 =>
            (if (decide (c184 < 0)) = true then
              some false
            else
              (if (c184 != c175.1) = true then
                some false
              else
                ((laws_toDomainS a0).bind fun c185 =>
                ((impl_FailOver c185 a1 a2).bind fun c186 =>
                ((((laws_eqDomainS c186.1 c144.1).bind fun c187 =>
                  (if (!c187) = true then
                    some (⟨true⟩ : laws_FnExactFailOver_J4027)
                  else
                    some (⟨(!(c186.2 == c144.2))⟩ : laws_FnExactFailOver_J4027))) : Option laws_FnExactFailOver_J4027).bind fun p188 =>
                (if p188.t100 = true then
                  some false
                else
                  ((laws_heldDomainS c175.2 1).bind fun c189 =>
                  (if (decide (c189 < 0)) = true then
                    some false
                  else
                    (if (c189 != c175.1) = true then
                      some false
                    else
                      some true))))))))))))))))))))))))))))
end Go.TL
namespace Go.TL
structure EventT where
  Id : Int
  Version : Int
  Kind : Int
  Name : ByteArray
  deriving DecidableEq, Inhabited
noncomputable def laws_szEvent (a0 : EventT) (a1 : Int) : Option Int :=
  (if (decide ((wI (a1 - (a0.Name.size : Int))) < 0)) = true then
    some (-1)
  else
    some (wI (a1 - (a0.Name.size : Int))))
structure laws_szEventS_G1 where
  t1 : Int
  t5 : Int
structure laws_szEventS_P1_1 where
  t1 : Int
noncomputable def laws_szEventS_L1 (a0 : (List EventT)) (g1 : laws_szEventS_G1) : Option (laws_szEventS_G1 ⊕ (Unit ⊕ laws_szEventS_P1_1)) :=
  (if (decide (g1.t5 < ((a0.length : Nat) : Int))) = true then
    (guardO (0 ≤ g1.t5 ∧ g1.t5 < (a0.length : Int)) <|
    ((laws_szEvent (nth a0 g1.t5.toNat) g1.t1).bind fun c3 =>
    (if (decide (c3 < 0)) = true then
      some (.inr (.inl ()))
    else
      some (.inl ⟨c3, (wI (g1.t5 + 1))⟩))))
  else
    some (.inr (.inr (⟨g1.t1⟩))))
noncomputable def laws_szEventS (a0 : (List EventT)) (a1 : Int) : Option Int :=
  (if (decide ((wI (a1 - ((a0.length : Nat) : Int))) < 0)) = true then
    some (-1)
  else
    ((loopF (laws_szEventS_L1 a0) ⟨(wI (a1 - ((a0.length : Nat) : Int))), 0⟩).bind fun y4 =>
    match y4 with
    | .inl p5 =>
      some (-1)
    | .inr p6 =>
      some p6.t1))
noncomputable def laws_toEvent (a0 : EventT) : Option EventT :=
  some a0
structure laws_toEventS_G1 where
  t4 : Int
  c0 : (List EventT)
structure laws_toEventS_P1_0 where
  c0 : (List EventT)
noncomputable def laws_toEventS_L1 (a0 : (List EventT)) (g9 : laws_toEventS_G1) : Option (laws_toEventS_G1 ⊕ laws_toEventS_P1_0) :=
  (if (decide (g9.t4 < ((a0.length : Nat) : Int))) = true then
    (guardO (0 ≤ g9.t4 ∧ g9.t4 < (a0.length : Int)) <|
    ((laws_toEvent (nth a0 g9.t4.toNat)).bind fun c11 =>
    (guardO (0 ≤ g9.t4 ∧ g9.t4 < ((g9.c0.length : Nat) : Int)) <|
    some (.inl ⟨(wI (g9.t4 + 1)), (g9.c0.set g9.t4.toNat c11)⟩))))
  else
    some (.inr (⟨g9.c0⟩)))
noncomputable def laws_toEventS (a0 : (List EventT)) : Option (List EventT) :=
  (guardO (0 ≤ ((a0.length : Nat) : Int) ∧ ((a0.length : Nat) : Int) * 40 ≤ 281474976710656 ∧ ((a0.length : Nat) : Int) ≤ 9223372036854775807) <|
  ((loopF (laws_toEventS_L1 a0) ⟨0, (List.replicate a0.length (⟨0, 0, 0, ByteArray.empty⟩ : EventT))⟩).bind fun y12 =>
  some y12.c0))
structure StateT where
  Status : Int
  Next : Int
  Cancel : Bool
  Done : Int
  Signals : (List ByteArray)
  Timers : (List ByteArray)
  deriving DecidableEq, Inhabited
noncomputable def spec_NewState : Option StateT :=
  some (⟨0, 1, false, 0, [], []⟩ : StateT)
noncomputable def spec_GoodEvent (a0 : EventT) : Option Bool :=
  ((spec_l1In a0.Id 1 1000).bind fun c23 =>
  (if c23 = true then
    ((spec_l1In a0.Version 0 1000000).bind fun c24 =>
    (if c24 = true then
      ((spec_l1In a0.Kind 1 6).bind fun c25 =>
      (if c25 = true then
        ((spec_l1Name a0.Name).bind fun c32 =>
        some c32)
      else
        some false))
    else
      some false))
  else
    some false))
noncomputable def spec_l12Own (a0 : StateT) : Option StateT :=
  (guardO (a0.Signals.length * 16 ≤ 140737488355328) <|
  (guardO (a0.Timers.length * 16 ≤ 140737488355328) <|
  some (⟨a0.Status, a0.Next, a0.Cancel, a0.Done, (([]) ++ a0.Signals), (([]) ++ a0.Timers)⟩ : StateT)))
structure spec_l12At_G1 where
  t9 : Int
structure spec_l12At_P1_0 where
  t4 : Int
noncomputable def spec_l12At_L1 (a0 : (List ByteArray)) (a1 : ByteArray) (g36 : spec_l12At_G1) : Option (spec_l12At_G1 ⊕ (spec_l12At_P1_0 ⊕ Unit)) :=
  (if (decide (g36.t9 < ((a0.length : Nat) : Int))) = true then
    (guardO (0 ≤ g36.t9 ∧ g36.t9 < (a0.length : Int)) <|
    (if ((nth a0 g36.t9.toNat).toList == a1.toList) = true then
      some (.inr (.inl (⟨g36.t9⟩)))
    else
      some (.inl ⟨(wI (g36.t9 + 1))⟩)))
  else
    some (.inr (.inr ())))
noncomputable def spec_l12At (a0 : (List ByteArray)) (a1 : ByteArray) : Option Int :=
  ((loopF (spec_l12At_L1 a0 a1) ⟨0⟩).bind fun y37 =>
  match y37 with
  | .inl p38 =>
    some p38.t4
  | .inr p39 =>
    some (-1))
structure spec_l12Timer_G1 where
  t6 : Bool
  t15 : Int
  c0 : (List ByteArray)
structure spec_l12Timer_P1_0 where
  t6 : Bool
  c0 : (List ByteArray)
structure spec_l12Timer_J14007 where
  t28 : Bool
noncomputable def spec_l12Timer_L1 (a0 : (List ByteArray)) (a1 : ByteArray) (g43 : spec_l12Timer_G1) : Option (spec_l12Timer_G1 ⊕ spec_l12Timer_P1_0) :=
  (if (decide (g43.t15 < ((a0.length : Nat) : Int))) = true then
    (guardO (0 ≤ g43.t15 ∧ g43.t15 < (a0.length : Int)) <|
    (if ((nth a0 g43.t15.toNat).toList == a1.toList) = true then
      some (.inl ⟨g43.t6, (wI (g43.t15 + 1)), g43.c0⟩)
    else
      (((if (!g43.t6) = true then
          some (⟨(!(sLt (nth a0 g43.t15.toNat) a1 || (nth a0 g43.t15.toNat).toList == a1.toList))⟩ : spec_l12Timer_J14007)
        else
          some (⟨false⟩ : spec_l12Timer_J14007)) : Option spec_l12Timer_J14007).bind fun p45 =>
      (if p45.t28 = true then
        (guardO ((g43.c0.length + 1) * 16 ≤ 140737488355328) <|
        (guardO (((g43.c0.length + 1) + 1) * 16 ≤ 140737488355328) <|
        some (.inl ⟨true, (wI (g43.t15 + 1)), ((g43.c0 ++ ([a1])) ++ ([(nth a0 g43.t15.toNat)]))⟩)))
      else
        (guardO ((g43.c0.length + 1) * 16 ≤ 140737488355328) <|
        some (.inl ⟨g43.t6, (wI (g43.t15 + 1)), (g43.c0 ++ ([(nth a0 g43.t15.toNat)]))⟩))))))
  else
    some (.inr (⟨g43.t6, g43.c0⟩)))
noncomputable def spec_l12Timer (a0 : (List ByteArray)) (a1 : ByteArray) : Option (List ByteArray) :=
  ((spec_l12At a0 a1).bind fun c42 =>
  ((loopF (spec_l12Timer_L1 a0 a1) ⟨(decide (c42 ≥ 0)), 0, []⟩).bind fun y46 =>
  (if (!y46.t6) = true then
    (guardO ((y46.c0.length + 1) * 16 ≤ 140737488355328) <|
    some (y46.c0 ++ ([a1])))
  else
    some y46.c0)))
structure spec_l12Names_G1 where
  t11 : Int
structure spec_l12Names_G2 where
  t23 : Int
structure spec_l12Names_J34009 where
  t44 : Bool
noncomputable def spec_l12Names_L2 (a0 : (List ByteArray)) (g51 : spec_l12Names_G1) (a1 : Bool) (g60 : spec_l12Names_G2) : Option (spec_l12Names_G2 ⊕ (Unit ⊕ Unit)) :=
  (if (decide (g60.t23 < (((a0.take g51.t11.toNat).length : Nat) : Int))) = true then
    (guardO (0 ≤ g60.t23 ∧ g60.t23 < ((a0.take g51.t11.toNat).length : Int)) <|
    (((if ((nth (a0.take g51.t11.toNat) g60.t23.toNat).toList == (nth a0 g51.t11.toNat).toList) = true then
        some (⟨true⟩ : spec_l12Names_J34009)
      else
        (if a1 = true then
          (if (g60.t23 == (wI (g51.t11 - 1))) = true then
            some (⟨(!(sLt (nth (a0.take g51.t11.toNat) g60.t23.toNat) (nth a0 g51.t11.toNat) || (nth (a0.take g51.t11.toNat) g60.t23.toNat).toList == (nth a0 g51.t11.toNat).toList))⟩ : spec_l12Names_J34009)
          else
            some (⟨false⟩ : spec_l12Names_J34009))
        else
          some (⟨false⟩ : spec_l12Names_J34009))) : Option spec_l12Names_J34009).bind fun p62 =>
    (if p62.t44 = true then
      some (.inr (.inl ()))
    else
      some (.inl ⟨(wI (g60.t23 + 1))⟩))))
  else
    some (.inr (.inr ())))
noncomputable def spec_l12Names_L1 (a0 : (List ByteArray)) (a1 : Bool) (g51 : spec_l12Names_G1) : Option (spec_l12Names_G1 ⊕ (Unit ⊕ Unit)) :=
  (if (decide (g51.t11 < ((a0.length : Nat) : Int))) = true then
    (guardO (0 ≤ g51.t11 ∧ g51.t11 < (a0.length : Int)) <|
    ((spec_l1Name (nth a0 g51.t11.toNat)).bind fun c59 =>
    (if (!c59) = true then
      some (.inr (.inl ()))
    else
      (guardO (0 ≤ g51.t11 ∧ g51.t11 ≤ (a0.length : Int)) <|
      ((loopF (spec_l12Names_L2 a0 g51 a1) ⟨0⟩).bind fun y63 =>
      match y63 with
      | .inl p64 =>
        some (.inr (.inl ()))
      | .inr p65 =>
        some (.inl ⟨(wI (g51.t11 + 1))⟩))))))
  else
    some (.inr (.inr ())))
noncomputable def spec_l12Names (a0 : (List ByteArray)) (a1 : Bool) : Option Bool :=
  ((loopF (spec_l12Names_L1 a0 a1) ⟨0⟩).bind fun y66 =>
  match y66 with
  | .inl p67 =>
    some false
  | .inr p68 =>
    some (decide (((a0.length : Nat) : Int) ≤ 30)))
structure spec_GoodState_J4001 where
  t30 : Bool
noncomputable def spec_GoodState (a0 : StateT) : Option Bool :=
  ((((spec_l1In a0.Next 1 1001).bind fun c49 =>
    (if (!c49) = true then
      some (⟨true⟩ : spec_GoodState_J4001)
    else
      ((spec_l1In a0.Done 0 1000).bind fun c50 =>
      (if (!c50) = true then
        some (⟨true⟩ : spec_GoodState_J4001)
      else
        ((spec_l12Names a0.Signals false).bind fun c69 =>
        (if (!c69) = true then
          some (⟨true⟩ : spec_GoodState_J4001)
        else
          ((spec_l12Names a0.Timers true).bind fun c70 =>
          (if (!c70) = true then
            some (⟨true⟩ : spec_GoodState_J4001)
          else
            ((spec_l1In a0.Status 0 2).bind fun c71 =>
            some (⟨(!c71)⟩ : spec_GoodState_J4001)))))))))) : Option spec_GoodState_J4001).bind fun p72 =>
  (if p72.t30 = true then
    some false
  else
    (if (a0.Status == 0) = true then
      (if (a0.Next == 1) = true then
        (if (!a0.Cancel) = true then
          (if (a0.Done == 0) = true then
            (if (((a0.Signals.length : Nat) : Int) == 0) = true then
              some (((a0.Timers.length : Nat) : Int) == 0)
            else
              some false)
          else
            some false)
        else
          some false)
      else
        some false)
    else
      some (decide (a0.Next > 1)))))
structure spec_l12Apply_J4001 where
  t29 : Bool
structure spec_l12Apply_J3000 where
  b0_0 : Int
  b0_2 : Bool
  b0_3 : Int
  c2 : (List ByteArray)
  c3 : (List ByteArray)
structure spec_l12Apply_J4010 where
  t53 : Bool
noncomputable def spec_l12Apply (a0 : StateT) (a1 : EventT) : Option (StateT × Bool) :=
  ((((spec_GoodEvent a1).bind fun c33 =>
    (if (!c33) = true then
      some (⟨true⟩ : spec_l12Apply_J4001)
    else
      (if (a1.Id != a0.Next) = true then
        some (⟨true⟩ : spec_l12Apply_J4001)
      else
        (if (!((a1.Kind == 1) == (a0.Status == 0))) = true then
          some (⟨true⟩ : spec_l12Apply_J4001)
        else
          some (⟨(a0.Status == 2)⟩ : spec_l12Apply_J4001))))) : Option spec_l12Apply_J4001).bind fun p34 =>
  (if p34.t29 = true then
    some (a0, false)
  else
    ((spec_l12Own a0).bind fun c35 =>
    (((if (a1.Kind == 1) = true then
        some (.inl (⟨1, c35.Cancel, c35.Done, c35.Signals, c35.Timers⟩ : spec_l12Apply_J3000))
      else
        (if (a1.Kind == 2) = true then
          ((((spec_l12At c35.Signals a1.Name).bind fun c40 =>
            (if (decide (c40 ≥ 0)) = true then
              some (⟨true⟩ : spec_l12Apply_J4010)
            else
              some (⟨(((c35.Signals.length : Nat) : Int) == 30)⟩ : spec_l12Apply_J4010))) : Option spec_l12Apply_J4010).bind fun p41 =>
          (if p41.t53 = true then
            some (.inr (c35, false))
          else
            (guardO ((c35.Signals.length + 1) * 16 ≤ 140737488355328) <|
            some (.inl (⟨c35.Status, c35.Cancel, c35.Done, (c35.Signals ++ ([a1.Name])), c35.Timers⟩ : spec_l12Apply_J3000)))))
        else
          (if (a1.Kind == 3) = true then
            some (.inl (⟨c35.Status, c35.Cancel, (wI (c35.Done + 1)), c35.Signals, c35.Timers⟩ : spec_l12Apply_J3000))
          else
            (if (a1.Kind == 4) = true then
              ((spec_l12Timer c35.Timers a1.Name).bind fun c47 =>
              some (.inl (⟨c35.Status, c35.Cancel, c35.Done, c35.Signals, c47⟩ : spec_l12Apply_J3000)))
            else
              (if (a1.Kind == 5) = true then
                (if c35.Cancel = true then
                  some (.inr (c35, false))
                else
                  some (.inl (⟨c35.Status, true, c35.Done, c35.Signals, c35.Timers⟩ : spec_l12Apply_J3000)))
              else
                some (.inl (⟨2, c35.Cancel, c35.Done, c35.Signals, []⟩ : spec_l12Apply_J3000))))))) : Option (spec_l12Apply_J3000 ⊕ (StateT × Bool))).bind fun q => match q with
    | .inl p48 =>
      ((spec_GoodState (⟨p48.b0_0, (wI (c35.Next + 1)), p48.b0_2, p48.b0_3, p48.c2, p48.c3⟩ : StateT)).bind fun c73 =>
      some ((⟨p48.b0_0, (wI (c35.Next + 1)), p48.b0_2, p48.b0_3, p48.c2, p48.c3⟩ : StateT), c73))
    | .inr v => some v))))
structure spec_l12Fold_G1 where
  t12 : Int
  b1_0 : Int
  b1_1 : Int
  b1_2 : Bool
  b1_3 : Int
  b1_4 : (List ByteArray)
  b1_5 : (List ByteArray)
structure spec_l12Fold_P1_0 where
  t3 : Int
  b0_0 : Int
  b0_1 : Int
  b0_2 : Bool
  b0_3 : Int
  b0_4 : (List ByteArray)
  b0_5 : (List ByteArray)
structure spec_l12Fold_P1_1 where
  b1_0 : Int
  b1_1 : Int
  b1_2 : Bool
  b1_3 : Int
  b1_4 : (List ByteArray)
  b1_5 : (List ByteArray)
noncomputable def spec_l12Fold_L1 (a0 : (List EventT)) (g22 : spec_l12Fold_G1) : Option (spec_l12Fold_G1 ⊕ (spec_l12Fold_P1_0 ⊕ spec_l12Fold_P1_1)) :=
  (if (decide (g22.t12 < ((a0.length : Nat) : Int))) = true then
    (guardO (0 ≤ g22.t12 ∧ g22.t12 < (a0.length : Int)) <|
    ((spec_l12Apply (⟨g22.b1_0, g22.b1_1, g22.b1_2, g22.b1_3, g22.b1_4, g22.b1_5⟩ : StateT) (nth a0 g22.t12.toNat)).bind fun c75 =>
    (if (!c75.2) = true then
      some (.inr (.inl (⟨g22.t12, g22.b1_0, g22.b1_1, g22.b1_2, g22.b1_3, g22.b1_4, g22.b1_5⟩)))
    else
      some (.inl ⟨(wI (g22.t12 + 1)), c75.1.Status, c75.1.Next, c75.1.Cancel, c75.1.Done, c75.1.Signals, c75.1.Timers⟩))))
  else
    some (.inr (.inr (⟨g22.b1_0, g22.b1_1, g22.b1_2, g22.b1_3, g22.b1_4, g22.b1_5⟩))))
noncomputable def spec_l12Fold (a0 : (List EventT)) : Option (StateT × Int) :=
  ((spec_NewState).bind fun c21 =>
  ((loopF (spec_l12Fold_L1 a0) ⟨0, c21.Status, c21.Next, c21.Cancel, c21.Done, [], []⟩).bind fun y76 =>
  match y76 with
  | .inl p77 =>
    some ((⟨p77.b0_0, p77.b0_1, p77.b0_2, p77.b0_3, p77.b0_4, p77.b0_5⟩ : StateT), p77.t3)
  | .inr p78 =>
    some ((⟨p78.b1_0, p78.b1_1, p78.b1_2, p78.b1_3, p78.b1_4, p78.b1_5⟩ : StateT), ((a0.length : Nat) : Int))))
structure spec_IsHistory_G1 where
  t8 : Int
structure spec_IsHistory_J14004 where
  t26 : Bool
noncomputable def spec_IsHistory_L1 (a0 : (List EventT)) (g15 : spec_IsHistory_G1) : Option (spec_IsHistory_G1 ⊕ (Unit ⊕ Unit)) :=
  (if (decide (g15.t8 < ((a0.length : Nat) : Int))) = true then
    (((if (decide (g15.t8 > 0)) = true then
        (guardO (0 ≤ (wI (g15.t8 - 1)) ∧ (wI (g15.t8 - 1)) < (a0.length : Int)) <|
        (guardO (0 ≤ g15.t8 ∧ g15.t8 < (a0.length : Int)) <|
        some (⟨(decide (((nth a0 ((wI (g15.t8 - 1)).toNat)).Version) > ((nth a0 g15.t8.toNat).Version)))⟩ : spec_IsHistory_J14004)))
      else
        some (⟨false⟩ : spec_IsHistory_J14004)) : Option spec_IsHistory_J14004).bind fun p17 =>
    (if p17.t26 = true then
      some (.inr (.inl ()))
    else
      some (.inl ⟨(wI (g15.t8 + 1))⟩)))
  else
    some (.inr (.inr ())))
noncomputable def spec_IsHistory (a0 : (List EventT)) : Option Bool :=
  ((loopF (spec_IsHistory_L1 a0) ⟨0⟩).bind fun y18 =>
  match y18 with
  | .inl p19 =>
    some false
  | .inr p20 =>
    ((spec_l12Fold a0).bind fun c79 =>
    (if (c79.2 == ((a0.length : Nat) : Int)) = true then
      some (decide (((a0.length : Nat) : Int) ≤ 60))
    else
      some false)))
noncomputable def spec_l15History (a0 : (List EventT)) : Option Bool :=
  (if (decide (((a0.length : Nat) : Int) > 0)) = true then
    ((spec_IsHistory a0).bind fun c81 =>
    some c81)
  else
    some false)
noncomputable def spec_l15Event (a0 : EventT) (a1 : EventT) : Option Int :=
  (if (a0.Version != a1.Version) = true then
    (if (decide (a0.Version < a1.Version)) = true then
      some (-1)
    else
      some 1)
  else
    (if (a0.Kind != a1.Kind) = true then
      (if (decide (a0.Kind < a1.Kind)) = true then
        some (-1)
      else
        some 1)
    else
      (if (sLt a0.Name a1.Name) = true then
        some (-1)
      else
        (if (!(sLt a0.Name a1.Name || a0.Name.toList == a1.Name.toList)) = true then
          some 1
        else
          some 0))))
structure spec_l15Compare_G1 where
  t6 : Int
structure spec_l15Compare_P1_0 where
  t4 : Int
  t5 : Int
noncomputable def spec_l15Compare_L1 (a0 : (List EventT)) (a1 : (List EventT)) (g85 : spec_l15Compare_G1) : Option (spec_l15Compare_G1 ⊕ (spec_l15Compare_P1_0 ⊕ Unit)) :=
  (if (decide (g85.t6 < ((a0.length : Nat) : Int))) = true then
    (if (decide (g85.t6 < ((a1.length : Nat) : Int))) = true then
      (guardO (0 ≤ g85.t6 ∧ g85.t6 < (a0.length : Int)) <|
      (guardO (0 ≤ g85.t6 ∧ g85.t6 < (a1.length : Int)) <|
      ((spec_l15Event (nth a0 g85.t6.toNat) (nth a1 g85.t6.toNat)).bind fun c87 =>
      (if (c87 != 0) = true then
        some (.inr (.inl (⟨c87, g85.t6⟩)))
      else
        some (.inl ⟨(wI (g85.t6 + 1))⟩)))))
    else
      some (.inr (.inr ())))
  else
    some (.inr (.inr ())))
noncomputable def spec_l15Compare (a0 : (List EventT)) (a1 : (List EventT)) : Option (Int × Int) :=
  ((loopF (spec_l15Compare_L1 a0 a1) ⟨0⟩).bind fun y88 =>
  match y88 with
  | .inl p89 =>
    some (p89.t4, p89.t5)
  | .inr p90 =>
    (if (decide (((a0.length : Nat) : Int) < ((a1.length : Nat) : Int))) = true then
      some ((-1), ((a0.length : Nat) : Int))
    else
      (if (decide (((a0.length : Nat) : Int) > ((a1.length : Nat) : Int))) = true then
        some (1, ((a1.length : Nat) : Int))
      else
        some (0, ((a0.length : Nat) : Int)))))
structure spec_PartAt_J4001 where
  t15 : Bool
noncomputable def spec_PartAt (a0 : (List EventT)) (a1 : (List EventT)) : Option (Int × Bool) :=
  ((((spec_l15History a0).bind fun c82 =>
    (if (!c82) = true then
      some (⟨true⟩ : spec_PartAt_J4001)
    else
      ((spec_l15History a1).bind fun c83 =>
      some (⟨(!c83)⟩ : spec_PartAt_J4001)))) : Option spec_PartAt_J4001).bind fun p84 =>
  (if p84.t15 = true then
    some (0, false)
  else
    ((spec_l15Compare a0 a1).bind fun c91 =>
    some (c91.2, true))))
noncomputable def impl_NewState : Option StateT :=
  some (⟨0, 1, false, 0, [], []⟩ : StateT)
noncomputable def impl_namesOk_c1 (a0 : ByteArray) : Option Bool :=
  ((impl_goodName a0).bind fun c109 =>
  some (!c109))
structure slices_IndexFunc_string_impl_namesOk_c1_G1 where
  t8 : Int
structure slices_IndexFunc_string_impl_namesOk_c1_P1_0 where
  t4 : Int
noncomputable def slices_IndexFunc_string_impl_namesOk_c1_L1 (a0 : (List ByteArray)) (g107 : slices_IndexFunc_string_impl_namesOk_c1_G1) : Option (slices_IndexFunc_string_impl_namesOk_c1_G1 ⊕ (slices_IndexFunc_string_impl_namesOk_c1_P1_0 ⊕ Unit)) :=
  (if (decide (g107.t8 < ((a0.length : Nat) : Int))) = true then
    (guardO (0 ≤ g107.t8 ∧ g107.t8 < (a0.length : Int)) <|
    ((impl_namesOk_c1 (nth a0 g107.t8.toNat)).bind fun c111 =>
    (if c111 = true then
      some (.inr (.inl (⟨g107.t8⟩)))
    else
      some (.inl ⟨(wI (g107.t8 + 1))⟩))))
  else
    some (.inr (.inr ())))
noncomputable def slices_IndexFunc_string_impl_namesOk_c1 (a0 : (List ByteArray)) : Option Int :=
  ((loopF (slices_IndexFunc_string_impl_namesOk_c1_L1 a0) ⟨0⟩).bind fun y112 =>
  match y112 with
  | .inl p113 =>
    some p113.t4
  | .inr p114 =>
    some (-1))
noncomputable def slices_ContainsFunc_string_impl_namesOk_c1 (a0 : (List ByteArray)) : Option Bool :=
  ((slices_IndexFunc_string_impl_namesOk_c1 a0).bind fun c115 =>
  some (decide (c115 ≥ 0)))
noncomputable def impl_namesOk (a0 : (List ByteArray)) (a1 : Int) : Option Bool :=
  (if (decide (((a0.length : Nat) : Int) ≤ a1)) = true then
    ((slices_ContainsFunc_string_impl_namesOk_c1 a0).bind fun c116 =>
    some (!c116))
  else
    some false)
structure slices_Index_string_G1 where
  t8 : Int
structure slices_Index_string_P1_0 where
  t4 : Int
noncomputable def slices_Index_string_L1 (a0 : (List ByteArray)) (a1 : ByteArray) (g119 : slices_Index_string_G1) : Option (slices_Index_string_G1 ⊕ (slices_Index_string_P1_0 ⊕ Unit)) :=
  (if (decide (g119.t8 < ((a0.length : Nat) : Int))) = true then
    (guardO (0 ≤ g119.t8 ∧ g119.t8 < (a0.length : Int)) <|
    (if (a1.toList == (nth a0 g119.t8.toNat).toList) = true then
      some (.inr (.inl (⟨g119.t8⟩)))
    else
      some (.inl ⟨(wI (g119.t8 + 1))⟩)))
  else
    some (.inr (.inr ())))
noncomputable def slices_Index_string (a0 : (List ByteArray)) (a1 : ByteArray) : Option Int :=
  ((loopF (slices_Index_string_L1 a0 a1) ⟨0⟩).bind fun y120 =>
  match y120 with
  | .inl p121 =>
    some p121.t4
  | .inr p122 =>
    some (-1))
noncomputable def slices_Contains_string (a0 : (List ByteArray)) (a1 : ByteArray) : Option Bool :=
  ((slices_Index_string a0 a1).bind fun c123 =>
  some (decide (c123 ≥ 0)))
structure impl_distinct_G1 where
  t7 : Int
noncomputable def impl_distinct_L1 (a0 : (List ByteArray)) (g118 : impl_distinct_G1) : Option (impl_distinct_G1 ⊕ (Unit ⊕ Unit)) :=
  (if (decide (g118.t7 < ((a0.length : Nat) : Int))) = true then
    (guardO (0 ≤ g118.t7 ∧ g118.t7 < (a0.length : Int)) <|
    (guardO (0 ≤ g118.t7 ∧ g118.t7 ≤ (a0.length : Int)) <|
    ((slices_Contains_string (a0.take g118.t7.toNat) (nth a0 g118.t7.toNat)).bind fun c125 =>
    (if c125 = true then
      some (.inr (.inl ()))
    else
      some (.inl ⟨(wI (g118.t7 + 1))⟩)))))
  else
    some (.inr (.inr ())))
noncomputable def impl_distinct (a0 : (List ByteArray)) : Option Bool :=
  ((loopF (impl_distinct_L1 a0) ⟨0⟩).bind fun y126 =>
  match y126 with
  | .inl p127 =>
    some false
  | .inr p128 =>
    some true)
noncomputable def cmp_Less_string (a0 : ByteArray) (a1 : ByteArray) : Option Bool :=
  ((cmp_isNaN_string a0).bind fun c132 =>
  (if c132 = true then
    ((cmp_isNaN_string a1).bind fun c133 =>
    (if (!c133) = true then
      some true
    else
      some (sLt a0 a1)))
  else
    some (sLt a0 a1)))
structure slices_IsSorted_string_G1 where
  t3 : Int
noncomputable def slices_IsSorted_string_L1 (a0 : (List ByteArray)) (g131 : slices_IsSorted_string_G1) : Option (slices_IsSorted_string_G1 ⊕ (Unit ⊕ Unit)) :=
  (if (decide (g131.t3 > 0)) = true then
    (guardO (0 ≤ g131.t3 ∧ g131.t3 < (a0.length : Int)) <|
    (guardO (0 ≤ (wI (g131.t3 - 1)) ∧ (wI (g131.t3 - 1)) < (a0.length : Int)) <|
    ((cmp_Less_string (nth a0 g131.t3.toNat) (nth a0 ((wI (g131.t3 - 1)).toNat))).bind fun c135 =>
    (if c135 = true then
      some (.inr (.inl ()))
    else
      some (.inl ⟨(wI (g131.t3 - 1))⟩)))))
  else
    some (.inr (.inr ())))
noncomputable def slices_IsSorted_string (a0 : (List ByteArray)) : Option Bool :=
  ((loopF (slices_IsSorted_string_L1 a0) ⟨(wI (((a0.length : Nat) : Int) - 1))⟩).bind fun y136 =>
  match y136 with
  | .inl p137 =>
    some false
  | .inr p138 =>
    some true)
structure impl_GoodState_J4001 where
  t18 : Bool
structure impl_GoodState_J4003 where
  t46 : Bool
noncomputable def impl_GoodState (a0 : StateT) : Option Bool :=
  ((((impl_in a0.Next 1 1001).bind fun c103 =>
    (if (!c103) = true then
      some (⟨true⟩ : impl_GoodState_J4001)
    else
      ((impl_in a0.Done 0 1000).bind fun c104 =>
      (if (!c104) = true then
        some (⟨true⟩ : impl_GoodState_J4001)
      else
        ((impl_in a0.Status 0 2).bind fun c105 =>
        some (⟨(!c105)⟩ : impl_GoodState_J4001)))))) : Option impl_GoodState_J4001).bind fun p106 =>
  (if p106.t18 = true then
    some false
  else
    ((((impl_namesOk a0.Signals 30).bind fun c117 =>
      (if (!c117) = true then
        some (⟨true⟩ : impl_GoodState_J4003)
      else
        ((impl_distinct a0.Signals).bind fun c129 =>
        (if (!c129) = true then
          some (⟨true⟩ : impl_GoodState_J4003)
        else
          ((impl_namesOk a0.Timers 30).bind fun c130 =>
          (if (!c130) = true then
            some (⟨true⟩ : impl_GoodState_J4003)
          else
            ((slices_IsSorted_string a0.Timers).bind fun c139 =>
            (if (!c139) = true then
              some (⟨true⟩ : impl_GoodState_J4003)
            else
              ((impl_distinct a0.Timers).bind fun c140 =>
              some (⟨(!c140)⟩ : impl_GoodState_J4003)))))))))) : Option impl_GoodState_J4003).bind fun p141 =>
    (if p141.t46 = true then
      some false
    else
      (if (a0.Status != 0) = true then
        some (decide (a0.Next > 1))
      else
        (if (a0.Next == 1) = true then
          (if (!a0.Cancel) = true then
            (if (a0.Done == 0) = true then
              (if (((a0.Signals.length : Nat) : Int) == 0) = true then
                some (((a0.Timers.length : Nat) : Int) == 0)
              else
                some false)
            else
              some false)
          else
            some false)
        else
          some false))))))
noncomputable def impl_goodKind (a0 : Int) : Option Bool :=
  ((impl_in a0 1 6).bind fun c146 =>
  some c146)
noncomputable def impl_GoodEvent (a0 : EventT) : Option Bool :=
  ((impl_in a0.Id 1 1000).bind fun c143 =>
  (if c143 = true then
    ((impl_isVersion a0.Version).bind fun c145 =>
    (if c145 = true then
      ((impl_goodKind a0.Kind).bind fun c147 =>
      (if c147 = true then
        ((impl_goodName a0.Name).bind fun c148 =>
        some c148)
      else
        some false))
    else
      some false))
  else
    some false))
noncomputable def impl_cloneState (a0 : StateT) : Option StateT :=
  ((slices_Clone_string a0.Signals).bind fun c151 =>
  ((slices_Clone_string a0.Timers).bind fun c152 =>
  some (⟨a0.Status, a0.Next, a0.Cancel, a0.Done, c151, c152⟩ : StateT)))
noncomputable def slices_isNaN_string (a0 : ByteArray) : Option Bool :=
  some (!(a0.toList == a0.toList))
structure slices_BinarySearch_string_G1 where
  t7 : Int
  t8 : Int
structure slices_BinarySearch_string_P1_0 where
  t7 : Int
noncomputable def slices_BinarySearch_string_L1 (a0 : (List ByteArray)) (a1 : ByteArray) (g157 : slices_BinarySearch_string_G1) : Option (slices_BinarySearch_string_G1 ⊕ slices_BinarySearch_string_P1_0) :=
  (if (decide (g157.t7 < g157.t8)) = true then
    (guardO (0 ≤ (wI (shR 64 (wU (wI (g157.t7 + g157.t8))) 1)) ∧ (wI (shR 64 (wU (wI (g157.t7 + g157.t8))) 1)) < (a0.length : Int)) <|
    ((cmp_Less_string (nth a0 ((wI (shR 64 (wU (wI (g157.t7 + g157.t8))) 1)).toNat)) a1).bind fun c159 =>
    (if c159 = true then
      some (.inl ⟨(wI ((wI (shR 64 (wU (wI (g157.t7 + g157.t8))) 1)) + 1)), g157.t8⟩)
    else
      some (.inl ⟨g157.t7, (wI (shR 64 (wU (wI (g157.t7 + g157.t8))) 1))⟩))))
  else
    some (.inr (⟨g157.t7⟩)))
noncomputable def slices_BinarySearch_string (a0 : (List ByteArray)) (a1 : ByteArray) : Option (Int × Bool) :=
  ((loopF (slices_BinarySearch_string_L1 a0 a1) ⟨0, ((a0.length : Nat) : Int)⟩).bind fun y160 =>
  (if (decide (y160.t7 < ((a0.length : Nat) : Int))) = true then
    (guardO (0 ≤ y160.t7 ∧ y160.t7 < (a0.length : Int)) <|
    (if ((nth a0 y160.t7.toNat).toList == a1.toList) = true then
      some (y160.t7, true)
    else
      (guardO (0 ≤ y160.t7 ∧ y160.t7 < (a0.length : Int)) <|
      ((slices_isNaN_string (nth a0 y160.t7.toNat)).bind fun c161 =>
      (if c161 = true then
        ((slices_isNaN_string a1).bind fun c162 =>
        some (y160.t7, c162))
      else
        some (y160.t7, false))))))
  else
    some (y160.t7, false)))
noncomputable def slices_Delete_string_w (a0 : (List ByteArray)) (a1 : Int) (a2 : Int) : Option (List ByteArray) :=
  guardO (0 ≤ a1 ∧ a1 ≤ a2 ∧ a2 ≤ (a0.length : Int) ∧ a0.length * 16 ≤ 140737488355328) (some (a0.take a1.toNat ++ a0.drop a2.toNat))
noncomputable def slices_Insert_string_w (a0 : (List ByteArray)) (a1 : Int) (a2 : (List ByteArray)) : Option (List ByteArray) :=
  guardO (a2.length = 1 ∧ 0 ≤ a1 ∧ a1 ≤ (a0.length : Int) ∧ (a0.length + 1) * 16 ≤ 140737488355328) (some (a0.take a1.toNat ++ a2 ++ a0.drop a1.toNat))
noncomputable def impl_State_turnTimer_o (a0 : StateT) (a1 : ByteArray) : Option (Bool × StateT) :=
  ((slices_BinarySearch_string a0.Timers a1).bind fun c165 =>
  (if c165.2 = true then
    ((slices_Delete_string_w a0.Timers c165.1 (wI (c165.1 + 1))).bind fun c166 =>
    some (true, (⟨a0.Status, a0.Next, a0.Cancel, a0.Done, a0.Signals, c166⟩ : StateT)))
  else
    (if (((a0.Timers.length : Nat) : Int) == 30) = true then
      some (false, a0)
    else
      ((slices_Insert_string_w a0.Timers c165.1 ([a1])).bind fun c167 =>
      some (true, (⟨a0.Status, a0.Next, a0.Cancel, a0.Done, a0.Signals, c167⟩ : StateT))))))
structure impl_State_apply_o_J4001 where
  t32 : Bool
structure impl_State_apply_o_J4007 where
  t54 : Bool
noncomputable def impl_State_apply_o (a0 : StateT) (a1 : Int) (a2 : ByteArray) : Option (Bool × StateT) :=
  (((if (decide (a0.Next > 1000)) = true then
      some (⟨true⟩ : impl_State_apply_o_J4001)
    else
      (if (!((a1 == 1) == (a0.Status == 0))) = true then
        some (⟨true⟩ : impl_State_apply_o_J4001)
      else
        (if (a1 != 1) = true then
          some (⟨(a0.Status != 1)⟩ : impl_State_apply_o_J4001)
        else
          some (⟨false⟩ : impl_State_apply_o_J4001)))) : Option impl_State_apply_o_J4001).bind fun p170 =>
  (if p170.t32 = true then
    some (false, a0)
  else
    (if (a1 == 1) = true then
      some (true, (⟨1, (wI (a0.Next + 1)), a0.Cancel, a0.Done, a0.Signals, a0.Timers⟩ : StateT))
    else
      (if (a1 == 2) = true then
        ((((slices_Contains_string a0.Signals a2).bind fun c171 =>
          (if c171 = true then
            some (⟨true⟩ : impl_State_apply_o_J4007)
          else
            some (⟨(((a0.Signals.length : Nat) : Int) == 30)⟩ : impl_State_apply_o_J4007))) : Option impl_State_apply_o_J4007).bind fun p172 =>
        (if p172.t54 = true then
          some (false, a0)
        else
          (guardO ((a0.Signals.length + 1) * 16 ≤ 140737488355328) <|
          some (true, (⟨a0.Status, (wI (a0.Next + 1)), a0.Cancel, a0.Done, (a0.Signals ++ ([a2])), a0.Timers⟩ : StateT)))))
      else
        (if (a1 == 3) = true then
          some (true, (⟨a0.Status, (wI (a0.Next + 1)), a0.Cancel, (wI (a0.Done + 1)), a0.Signals, a0.Timers⟩ : StateT))
        else
          (if (a1 == 4) = true then
            ((impl_State_turnTimer_o a0 a2).bind fun c173 =>
            (if (!c173.1) = true then
              some (false, (⟨c173.2.Status, c173.2.Next, c173.2.Cancel, c173.2.Done, a0.Signals, c173.2.Timers⟩ : StateT))
            else
              some (true, (⟨c173.2.Status, (wI (c173.2.Next + 1)), c173.2.Cancel, c173.2.Done, a0.Signals, c173.2.Timers⟩ : StateT))))
          else
            (if (a1 == 5) = true then
              (if a0.Cancel = true then
                some (false, a0)
              else
                some (true, (⟨a0.Status, (wI (a0.Next + 1)), true, a0.Done, a0.Signals, a0.Timers⟩ : StateT)))
            else
              (if (a1 == 6) = true then
                some (true, (⟨2, (wI (a0.Next + 1)), a0.Cancel, a0.Done, a0.Signals, []⟩ : StateT))
              else
                some (true, (⟨a0.Status, (wI (a0.Next + 1)), a0.Cancel, a0.Done, a0.Signals, a0.Timers⟩ : StateT))))))))))
structure impl_ApplyEvent_J4001 where
  t21 : Bool
structure impl_ApplyEvent_J4004 where
  t35 : Bool
  b1_0 : Int
  b1_1 : Int
  b1_2 : Bool
  b1_3 : Int
  c2 : (List ByteArray)
  c3 : (List ByteArray)
noncomputable def impl_ApplyEvent (a0 : StateT) (a1 : EventT) : Option (StateT × Bool) :=
  ((((impl_GoodState a0).bind fun c142 =>
    (if (!c142) = true then
      some (⟨true⟩ : impl_ApplyEvent_J4001)
    else
      ((impl_GoodEvent a1).bind fun c149 =>
      (if (!c149) = true then
        some (⟨true⟩ : impl_ApplyEvent_J4001)
      else
        some (⟨(a1.Id != a0.Next)⟩ : impl_ApplyEvent_J4001))))) : Option impl_ApplyEvent_J4001).bind fun p150 =>
  (if p150.t21 = true then
    some ((⟨0, 0, false, 0, [], []⟩ : StateT), false)
  else
    ((impl_cloneState a0).bind fun c153 =>
    ((((impl_State_apply_o c153 a1.Kind a1.Name).bind fun c174 =>
      (if (!c174.1) = true then
        some (⟨true, c174.2.Status, c174.2.Next, c174.2.Cancel, c174.2.Done, c174.2.Signals, c174.2.Timers⟩ : impl_ApplyEvent_J4004)
      else
        ((impl_GoodState c174.2).bind fun c175 =>
        some (⟨(!c175), c174.2.Status, c174.2.Next, c174.2.Cancel, c174.2.Done, c174.2.Signals, c174.2.Timers⟩ : impl_ApplyEvent_J4004)))) : Option impl_ApplyEvent_J4004).bind fun p176 =>
    (if p176.t35 = true then
      some ((⟨0, 0, false, 0, [], []⟩ : StateT), false)
    else
      some ((⟨p176.b1_0, p176.b1_1, p176.b1_2, p176.b1_3, p176.c2, p176.c3⟩ : StateT), true))))))
structure impl_FoldEvents_G1 where
  t12 : Int
  b1_0 : Int
  b1_1 : Int
  b1_2 : Bool
  b1_3 : Int
  c2 : (List ByteArray)
  c3 : (List ByteArray)
structure impl_FoldEvents_P1_0 where
  t3 : Int
  b0_0 : Int
  b0_1 : Int
  b0_2 : Bool
  b0_3 : Int
  c1 : (List ByteArray)
  c2 : (List ByteArray)
structure impl_FoldEvents_P1_1 where
  b1_0 : Int
  b1_1 : Int
  b1_2 : Bool
  b1_3 : Int
  c2 : (List ByteArray)
  c3 : (List ByteArray)
noncomputable def impl_FoldEvents_L1 (a0 : (List EventT)) (g102 : impl_FoldEvents_G1) : Option (impl_FoldEvents_G1 ⊕ (impl_FoldEvents_P1_0 ⊕ impl_FoldEvents_P1_1)) :=
  (if (decide (g102.t12 < ((a0.length : Nat) : Int))) = true then
    (guardO (0 ≤ g102.t12 ∧ g102.t12 < (a0.length : Int)) <|
    ((impl_ApplyEvent (⟨g102.b1_0, g102.b1_1, g102.b1_2, g102.b1_3, g102.c2, g102.c3⟩ : StateT) (nth a0 g102.t12.toNat)).bind fun c178 =>
    (if (!c178.2) = true then
      some (.inr (.inl (⟨g102.t12, g102.b1_0, g102.b1_1, g102.b1_2, g102.b1_3, g102.c2, g102.c3⟩)))
    else
      some (.inl ⟨(wI (g102.t12 + 1)), c178.1.Status, c178.1.Next, c178.1.Cancel, c178.1.Done, c178.1.Signals, c178.1.Timers⟩))))
  else
    some (.inr (.inr (⟨g102.b1_0, g102.b1_1, g102.b1_2, g102.b1_3, g102.c2, g102.c3⟩))))
noncomputable def impl_FoldEvents (a0 : (List EventT)) : Option (StateT × Int) :=
  ((impl_NewState).bind fun c101 =>
  ((loopF (impl_FoldEvents_L1 a0) ⟨0, c101.Status, c101.Next, c101.Cancel, c101.Done, [], []⟩).bind fun y179 =>
  match y179 with
  | .inl p180 =>
    some ((⟨p180.b0_0, p180.b0_1, p180.b0_2, p180.b0_3, p180.c1, p180.c2⟩ : StateT), p180.t3)
  | .inr p181 =>
    some ((⟨p181.b1_0, p181.b1_1, p181.b1_2, p181.b1_3, p181.c2, p181.c3⟩ : StateT), ((a0.length : Nat) : Int))))
structure impl_IsHistory_G1 where
  t12 : Int
structure impl_IsHistory_J14006 where
  t29 : Bool
noncomputable def impl_IsHistory_L1 (a0 : (List EventT)) (g95 : impl_IsHistory_G1) : Option (impl_IsHistory_G1 ⊕ (Unit ⊕ Unit)) :=
  (if (decide (g95.t12 < ((a0.length : Nat) : Int))) = true then
    (guardO (0 ≤ g95.t12 ∧ g95.t12 < (a0.length : Int)) <|
    (((if (decide (g95.t12 > 0)) = true then
        (guardO (0 ≤ (wI (g95.t12 - 1)) ∧ (wI (g95.t12 - 1)) < (a0.length : Int)) <|
        some (⟨(decide (((nth a0 g95.t12.toNat).Version) < ((nth a0 ((wI (g95.t12 - 1)).toNat)).Version)))⟩ : impl_IsHistory_J14006))
      else
        some (⟨false⟩ : impl_IsHistory_J14006)) : Option impl_IsHistory_J14006).bind fun p97 =>
    (if p97.t29 = true then
      some (.inr (.inl ()))
    else
      some (.inl ⟨(wI (g95.t12 + 1))⟩))))
  else
    some (.inr (.inr ())))
noncomputable def impl_IsHistory (a0 : (List EventT)) : Option Bool :=
  (if (decide (((a0.length : Nat) : Int) > 60)) = true then
    some false
  else
    ((loopF (impl_IsHistory_L1 a0) ⟨0⟩).bind fun y98 =>
    match y98 with
    | .inl p99 =>
      some false
    | .inr p100 =>
      ((impl_FoldEvents a0).bind fun c182 =>
      some (c182.2 == ((a0.length : Nat) : Int)))))
structure impl_shared_G1 where
  t5 : Int
structure impl_shared_P1_0 where
  t5 : Int
noncomputable def impl_shared_L1 (a0 : (List EventT)) (a1 : (List EventT)) (g187 : impl_shared_G1) : Option (impl_shared_G1 ⊕ impl_shared_P1_0) :=
  (if (decide (g187.t5 < (min ((a0.length : Nat) : Int) ((a1.length : Nat) : Int)))) = true then
    (guardO (0 ≤ g187.t5 ∧ g187.t5 < (a0.length : Int)) <|
    (guardO (0 ≤ g187.t5 ∧ g187.t5 < (a1.length : Int)) <|
    (if ((((nth a0 g187.t5.toNat).Id) == ((nth a1 g187.t5.toNat).Id)) && ((((nth a0 g187.t5.toNat).Version) == ((nth a1 g187.t5.toNat).Version)) && ((((nth a0 g187.t5.toNat).Kind) == ((nth a1 g187.t5.toNat).Kind)) && (((nth a0 g187.t5.toNat).Name).toList == ((nth a1 g187.t5.toNat).Name).toList)))) = true then
      some (.inl ⟨(wI (g187.t5 + 1))⟩)
    else
      some (.inr (⟨g187.t5⟩)))))
  else
    some (.inr (⟨g187.t5⟩)))
noncomputable def impl_shared (a0 : (List EventT)) (a1 : (List EventT)) : Option Int :=
  ((loopF (impl_shared_L1 a0 a1) ⟨0⟩).bind fun y188 =>
  some y188.t5)
structure impl_PartAt_J4001 where
  t23 : Bool
noncomputable def impl_PartAt (a0 : (List EventT)) (a1 : (List EventT)) : Option (Int × Bool) :=
  (((if (((a0.length : Nat) : Int) == 0) = true then
      some (⟨true⟩ : impl_PartAt_J4001)
    else
      (if (((a1.length : Nat) : Int) == 0) = true then
        some (⟨true⟩ : impl_PartAt_J4001)
      else
        ((impl_IsHistory a0).bind fun c184 =>
        (if (!c184) = true then
          some (⟨true⟩ : impl_PartAt_J4001)
        else
          ((impl_IsHistory a1).bind fun c185 =>
          some (⟨(!c185)⟩ : impl_PartAt_J4001)))))) : Option impl_PartAt_J4001).bind fun p186 =>
  (if p186.t23 = true then
    some (0, false)
  else
    ((impl_shared a0 a1).bind fun c189 =>
    some (c189, true))))
noncomputable def laws_eqEvent (a0 : EventT) (a1 : EventT) : Option Bool :=
  (if (a0.Id != a1.Id) = true then
    some false
  else
    (if (a0.Version != a1.Version) = true then
      some false
    else
      (if (a0.Kind != a1.Kind) = true then
        some false
      else
        (if (!(a0.Name.toList == a1.Name.toList)) = true then
          some false
        else
          some true))))
structure laws_eqEventS_G1 where
  t5 : Int
noncomputable def laws_eqEventS_L1 (a0 : (List EventT)) (a1 : (List EventT)) (g193 : laws_eqEventS_G1) : Option (laws_eqEventS_G1 ⊕ (Unit ⊕ Unit)) :=
  (if (decide (g193.t5 < ((a0.length : Nat) : Int))) = true then
    (guardO (0 ≤ g193.t5 ∧ g193.t5 < (a0.length : Int)) <|
    (guardO (0 ≤ g193.t5 ∧ g193.t5 < (a1.length : Int)) <|
    ((laws_eqEvent (nth a0 g193.t5.toNat) (nth a1 g193.t5.toNat)).bind fun c195 =>
    (if (!c195) = true then
      some (.inr (.inl ()))
    else
      some (.inl ⟨(wI (g193.t5 + 1))⟩)))))
  else
    some (.inr (.inr ())))
noncomputable def laws_eqEventS (a0 : (List EventT)) (a1 : (List EventT)) : Option Bool :=
  (if (((a0.length : Nat) : Int) != ((a1.length : Nat) : Int)) = true then
    some false
  else
    ((loopF (laws_eqEventS_L1 a0 a1) ⟨0⟩).bind fun y196 =>
    match y196 with
    | .inl p197 =>
      some false
    | .inr p198 =>
      some true))
structure laws_FnExactPartAt_J4012 where
  t47 : Bool
noncomputable def laws_FnExactPartAt (a0 : (List EventT)) (a1 : (List EventT)) : Option Bool :=
  ((laws_szEventS a0 1048576).bind fun c7 =>
  (if (decide (c7 < 0)) = true then
    some true
  else
    ((laws_szEventS a1 c7).bind fun c8 =>
    (if (decide (c8 < 0)) = true then
      some true
    else
      ((laws_toEventS a0).bind fun c13 =>
      ((laws_toEventS a1).bind fun c14 =>
      ((spec_PartAt c13 c14).bind fun c92 =>
      ((laws_toEventS a0).bind fun c93 =>
      ((laws_toEventS a1).bind fun c94 =>
      ((impl_PartAt c93 c94).bind fun c190 =>
      (((if (c190.1 != c92.1) = true then
          some (⟨true⟩ : laws_FnExactPartAt_J4012)
        else
          some (⟨(!(c190.2 == c92.2))⟩ : laws_FnExactPartAt_J4012)) : Option laws_FnExactPartAt_J4012).bind fun p191 =>
      (if p191.t47 = true then
        some false
      else
        ((laws_toEventS a0).bind fun c192 =>
        ((laws_eqEventS c93 c192).bind fun c199 =>
        (if (!c199) = true then
          some false
        else
          ((laws_toEventS a1).bind fun c200 =>
          ((laws_eqEventS c94 c200).bind fun c201 =>
          (if (!c201) = true then
            some false
          else
            some true))))))))))))))))))
noncomputable def spec_SignalsIn (a0 : (List EventT)) : Option ((List ByteArray) × Bool) :=
  ((spec_IsHistory a0).bind fun c204 =>
  (if (!c204) = true then
    some ([], false)
  else
    ((spec_l12Fold a0).bind fun c205 =>
    (guardO (c205.1.Signals.length * 16 ≤ 140737488355328) <|
    some ((([]) ++ c205.1.Signals), true)))))
noncomputable def impl_SignalsIn (a0 : (List EventT)) : Option ((List ByteArray) × Bool) :=
  ((impl_IsHistory a0).bind fun c208 =>
  (if (!c208) = true then
    some ([], false)
  else
    ((impl_FoldEvents a0).bind fun c209 =>
    some (c209.1.Signals, true))))
structure laws_markEventS_w_G1 where
  t1 : Int
  t5 : Int
  c0 : (List EventT)
structure laws_markEventS_w_P1_0 where
  t1 : Int
  c0 : (List EventT)
noncomputable def laws_markEventS_w_L1 (g220 : laws_markEventS_w_G1) : Option (laws_markEventS_w_G1 ⊕ laws_markEventS_w_P1_0) :=
  (if (decide (g220.t5 < ((g220.c0.length : Nat) : Int))) = true then
    (guardO (0 ≤ g220.t5 ∧ g220.t5 < ((g220.c0.length : Nat) : Int)) <|
    (guardO (0 ≤ g220.t5 ∧ g220.t5 < ((g220.c0.length : Nat) : Int)) <|
    (guardO (0 ≤ g220.t5 ∧ g220.t5 < ((g220.c0.length : Nat) : Int)) <|
    ((laws_markText (wI ((wI ((wI (g220.t1 + 1)) + 1)) + 1))).bind fun c224 =>
    (guardO (0 ≤ g220.t5 ∧ g220.t5 < ((g220.c0.length : Nat) : Int)) <|
    some (.inl ⟨(wI ((wI ((wI ((wI (g220.t1 + 1)) + 1)) + 1)) + 1)), (wI (g220.t5 + 1)), ((((g220.c0.set g220.t5.toNat (⟨g220.t1, (nth g220.c0 g220.t5.toNat).Version, (nth g220.c0 g220.t5.toNat).Kind, (nth g220.c0 g220.t5.toNat).Name⟩ : EventT)).set g220.t5.toNat (⟨(nth (g220.c0.set g220.t5.toNat (⟨g220.t1, (nth g220.c0 g220.t5.toNat).Version, (nth g220.c0 g220.t5.toNat).Kind, (nth g220.c0 g220.t5.toNat).Name⟩ : EventT)) g220.t5.toNat).Id, (wI (g220.t1 + 1)), (nth (g220.c0.set g220.t5.toNat (⟨g220.t1, (nth g220.c0 g220.t5.toNat).Version, (nth g220.c0 g220.t5.toNat).Kind, (nth g220.c0 g220.t5.toNat).Name⟩ : EventT)) g220.t5.toNat).Kind, (nth (g220.c0.set g220.t5.toNat (⟨g220.t1, (nth g220.c0 g220.t5.toNat).Version, (nth g220.c0 g220.t5.toNat).Kind, (nth g220.c0 g220.t5.toNat).Name⟩ : EventT)) g220.t5.toNat).Name⟩ : EventT)).set g220.t5.toNat (⟨(nth ((g220.c0.set g220.t5.toNat (⟨g220.t1, (nth g220.c0 g220.t5.toNat).Version, (nth g220.c0 g220.t5.toNat).Kind, (nth g220.c0 g220.t5.toNat).Name⟩ : EventT)).set g220.t5.toNat (⟨(nth (g220.c0.set g220.t5.toNat (⟨g220.t1, (nth g220.c0 g220.t5.toNat).Version, (nth g220.c0 g220.t5.toNat).Kind, (nth g220.c0 g220.t5.toNat).Name⟩ : EventT)) g220.t5.toNat).Id, (wI (g220.t1 + 1)), (nth (g220.c0.set g220.t5.toNat (⟨g220.t1, (nth g220.c0 g220.t5.toNat).Version, (nth g220.c0 g220.t5.toNat).Kind, (nth g220.c0 g220.t5.toNat).Name⟩ : EventT)) g220.t5.toNat).Kind, (nth (g220.c0.set g220.t5.toNat (⟨g220.t1, (nth g220.c0 g220.t5.toNat).Version, (nth g220.c0 g220.t5.toNat).Kind, (nth g220.c0 g220.t5.toNat).Name⟩ : EventT)) g220.t5.toNat).Name⟩ : EventT)) g220.t5.toNat).Id, (nth ((g220.c0.set g220.t5.toNat (⟨g220.t1, (nth g220.c0 g220.t5.toNat).Version, (nth g220.c0 g220.t5.toNat).Kind, (nth g220.c0 g220.t5.toNat).Name⟩ : EventT)).set g220.t5.toNat (⟨(nth (g220.c0.set g220.t5.toNat (⟨g220.t1, (nth g220.c0 g220.t5.toNat).Version, (nth g220.c0 g220.t5.toNat).Kind, (nth g220.c0 g220.t5.toNat).Name⟩ : EventT)) g220.t5.toNat).Id, (wI (g220.t1 + 1)), (nth (g220.c0.set g220.t5.toNat (⟨g220.t1, (nth g220.c0 g220.t5.toNat).Version, (nth g220.c0 g220.t5.toNat).Kind, (nth g220.c0 g220.t5.toNat).Name⟩ : EventT)) g220.t5.toNat).Kind, (nth (g220.c0.set g220.t5.toNat (⟨g220.t1, (nth g220.c0 g220.t5.toNat).Version, (nth g220.c0 g220.t5.toNat).Kind, (nth g220.c0 g220.t5.toNat).Name⟩ : EventT)) g220.t5.toNat).Name⟩ : EventT)) g220.t5.toNat).Version, (wI ((wI (g220.t1 + 1)) + 1)), (nth ((g220.c0.set g220.t5.toNat (⟨g220.t1, (nth g220.c0 g220.t5.toNat).Version, (nth g220.c0 g220.t5.toNat).Kind, (nth g220.c0 g220.t5.toNat).Name⟩ : EventT)).set g220.t5.toNat (⟨(nth (g220.c0.set g220.t5.toNat (⟨g220.t1, (nth g220.c0 g220.t5.toNat).Version, (nth g220.c0 g220.t5.toNat).Kind, (nth g220.c0 g220.t5.toNat).Name⟩ : EventT)) g220.t5.toNat).Id, (wI (g220.t1 + 1)), (nth (g220.c0.set g220.t5.toNat (⟨g220.t1, (nth g220.c0 g220.t5.toNat).Version, (nth g220.c0 g220.t5.toNat).Kind, (nth g220.c0 g220.t5.toNat).Name⟩ : EventT)) g220.t5.toNat).Kind, (nth (g220.c0.set g220.t5.toNat (⟨g220.t1, (nth g220.c0 g220.t5.toNat).Version, (nth g220.c0 g220.t5.toNat).Kind, (nth g220.c0 g220.t5.toNat).Name⟩ : EventT)) g220.t5.toNat).Name⟩ : EventT)) g220.t5.toNat).Name⟩ : EventT)).set g220.t5.toNat (⟨(nth (((g220.c0.set g220.t5.toNat (⟨g220.t1, (nth g220.c0 g220.t5.toNat).Version, (nth g220.c0 g220.t5.toNat).Kind, (nth g220.c0 g220.t5.toNat).Name⟩ : EventT)).set g220.t5.toNat (⟨(nth (g220.c0.set g220.t5.toNat (⟨g220.t1, (nth g220.c0 g220.t5.toNat).Version, (nth g220.c0 g220.t5.toNat).Kind, (nth g220.c0 g220.t5.toNat).Name⟩ : EventT)) g220.t5.toNat).Id, (wI (g220.t1 + 1)), (nth (g220.c0.set g220.t5.toNat (⟨g220.t1, (nth g220.c0 g220.t5.toNat).Version, (nth g220.c0 g220.t5.toNat).Kind, (nth g220.c0 g220.t5.toNat).Name⟩ : EventT)) g220.t5.toNat).Kind, (nth (g220.c0.set g220.t5.toNat (⟨g220.t1, (nth g220.c0 g220.t5.toNat).Version, (nth g220.c0 g220.t5.toNat).Kind, (nth g220.c0 g220.t5.toNat).Name⟩ : EventT)) g220.t5.toNat).Name⟩ : EventT)).set g220.t5.toNat (⟨(nth ((g220.c0.set g220.t5.toNat (⟨g220.t1, (nth g220.c0 g220.t5.toNat).Version, (nth g220.c0 g220.t5.toNat).Kind, (nth g220.c0 g220.t5.toNat).Name⟩ : EventT)).set g220.t5.toNat (⟨(nth (g220.c0.set g220.t5.toNat (⟨g220.t1, (nth g220.c0 g220.t5.toNat).Version, (nth g220.c0 g220.t5.toNat).Kind, (nth g220.c0 g220.t5.toNat).Name⟩ : EventT)) g220.t5.toNat).Id, (wI (g220.t1 + 1)), (nth (g220.c0.set g220.t5.toNat (⟨g220.t1, (nth g220.c0 g220.t5.toNat).Version, (nth g220.c0 g220.t5.toNat).Kind, (nth g220.c0 g220.t5.toNat).Name⟩ : EventT)) g220.t5.toNat).Kind, (nth (g220.c0.set g220.t5.toNat (⟨g220.t1, (nth g220.c0 g220.t5.toNat).Version, (nth g220.c0 g220.t5.toNat).Kind, (nth g220.c0 g220.t5.toNat).Name⟩ : EventT)) g220.t5.toNat).Name⟩ : EventT)) g220.t5.toNat).Id, (nth ((g220.c0.set g220.t5.toNat (⟨g220.t1, (nth g220.c0 g220.t5.toNat).Version, (nth g220.c0 g220.t5.toNat).Kind, (nth g220.c0 g220.t5.toNat).Name⟩ : EventT)).set g220.t5.toNat (⟨(nth (g220.c0.set g220.t5.toNat (⟨g220.t1, (nth g220.c0 g220.t5.toNat).Version, (nth g220.c0 g220.t5.toNat).Kind, (nth g220.c0 g220.t5.toNat).Name⟩ : EventT)) g220.t5.toNat).Id, (wI (g220.t1 + 1)), (nth (g220.c0.set g220.t5.toNat (⟨g220.t1, (nth g220.c0 g220.t5.toNat).Version, (nth g220.c0 g220.t5.toNat).Kind, (nth g220.c0 g220.t5.toNat).Name⟩ : EventT)) g220.t5.toNat).Kind, (nth (g220.c0.set g220.t5.toNat (⟨g220.t1, (nth g220.c0 g220.t5.toNat).Version, (nth g220.c0 g220.t5.toNat).Kind, (nth g220.c0 g220.t5.toNat).Name⟩ : EventT)) g220.t5.toNat).Name⟩ : EventT)) g220.t5.toNat).Version, (wI ((wI (g220.t1 + 1)) + 1)), (nth ((g220.c0.set g220.t5.toNat (⟨g220.t1, (nth g220.c0 g220.t5.toNat).Version, (nth g220.c0 g220.t5.toNat).Kind, (nth g220.c0 g220.t5.toNat).Name⟩ : EventT)).set g220.t5.toNat (⟨(nth (g220.c0.set g220.t5.toNat (⟨g220.t1, (nth g220.c0 g220.t5.toNat).Version, (nth g220.c0 g220.t5.toNat).Kind, (nth g220.c0 g220.t5.toNat).Name⟩ : EventT)) g220.t5.toNat).Id, (wI (g220.t1 + 1)), (nth (g220.c0.set g220.t5.toNat (⟨g220.t1, (nth g220.c0 g220.t5.toNat).Version, (nth g220.c0 g220.t5.toNat).Kind, (nth g220.c0 g220.t5.toNat).Name⟩ : EventT)) g220.t5.toNat).Kind, (nth (g220.c0.set g220.t5.toNat (⟨g220.t1, (nth g220.c0 g220.t5.toNat).Version, (nth g220.c0 g220.t5.toNat).Kind, (nth g220.c0 g220.t5.toNat).Name⟩ : EventT)) g220.t5.toNat).Name⟩ : EventT)) g220.t5.toNat).Name⟩ : EventT)) g220.t5.toNat).Id, (nth (((g220.c0.set g220.t5.toNat (⟨g220.t1, (nth g220.c0 g220.t5.toNat).Version, (nth g220.c0 g220.t5.toNat).Kind, (nth g220.c0 g220.t5.toNat).Name⟩ : EventT)).set g220.t5.toNat (⟨(nth (g220.c0.set g220.t5.toNat (⟨g220.t1, (nth g220.c0 g220.t5.toNat).Version, (nth g220.c0 g220.t5.toNat).Kind, (nth g220.c0 g220.t5.toNat).Name⟩ : EventT)) g220.t5.toNat).Id, (wI (g220.t1 + 1)), (nth (g220.c0.set g220.t5.toNat (⟨g220.t1, (nth g220.c0 g220.t5.toNat).Version, (nth g220.c0 g220.t5.toNat).Kind, (nth g220.c0 g220.t5.toNat).Name⟩ : EventT)) g220.t5.toNat).Kind, (nth (g220.c0.set g220.t5.toNat (⟨g220.t1, (nth g220.c0 g220.t5.toNat).Version, (nth g220.c0 g220.t5.toNat).Kind, (nth g220.c0 g220.t5.toNat).Name⟩ : EventT)) g220.t5.toNat).Name⟩ : EventT)).set g220.t5.toNat (⟨(nth ((g220.c0.set g220.t5.toNat (⟨g220.t1, (nth g220.c0 g220.t5.toNat).Version, (nth g220.c0 g220.t5.toNat).Kind, (nth g220.c0 g220.t5.toNat).Name⟩ : EventT)).set g220.t5.toNat (⟨(nth (g220.c0.set g220.t5.toNat (⟨g220.t1, (nth g220.c0 g220.t5.toNat).Version, (nth g220.c0 g220.t5.toNat).Kind, (nth g220.c0 g220.t5.toNat).Name⟩ : EventT)) g220.t5.toNat).Id, (wI (g220.t1 + 1)), (nth (g220.c0.set g220.t5.toNat (⟨g220.t1, (nth g220.c0 g220.t5.toNat).Version, (nth g220.c0 g220.t5.toNat).Kind, (nth g220.c0 g220.t5.toNat).Name⟩ : EventT)) g220.t5.toNat).Kind, (nth (g220.c0.set g220.t5.toNat (⟨g220.t1, (nth g220.c0 g220.t5.toNat).Version, (nth g220.c0 g220.t5.toNat).Kind, (nth g220.c0 g220.t5.toNat).Name⟩ : EventT)) g220.t5.toNat).Name⟩ : EventT)) g220.t5.toNat).Id, (nth ((g220.c0.set g220.t5.toNat (⟨g220.t1, (nth g220.c0 g220.t5.toNat).Version, (nth g220.c0 g220.t5.toNat).Kind, (nth g220.c0 g220.t5.toNat).Name⟩ : EventT)).set g220.t5.toNat (⟨(nth (g220.c0.set g220.t5.toNat (⟨g220.t1, (nth g220.c0 g220.t5.toNat).Version, (nth g220.c0 g220.t5.toNat).Kind, (nth g220.c0 g220.t5.toNat).Name⟩ : EventT)) g220.t5.toNat).Id, (wI (g220.t1 + 1)), (nth (g220.c0.set g220.t5.toNat (⟨g220.t1, (nth g220.c0 g220.t5.toNat).Version, (nth g220.c0 g220.t5.toNat).Kind, (nth g220.c0 g220.t5.toNat).Name⟩ : EventT)) g220.t5.toNat).Kind, (nth (g220.c0.set g220.t5.toNat (⟨g220.t1, (nth g220.c0 g220.t5.toNat).Version, (nth g220.c0 g220.t5.toNat).Kind, (nth g220.c0 g220.t5.toNat).Name⟩ : EventT)) g220.t5.toNat).Name⟩ : EventT)) g220.t5.toNat).Version, (wI ((wI (g220.t1 + 1)) + 1)), (nth ((g220.c0.set g220.t5.toNat (⟨g220.t1, (nth g220.c0 g220.t5.toNat).Version, (nth g220.c0 g220.t5.toNat).Kind, (nth g220.c0 g220.t5.toNat).Name⟩ : EventT)).set g220.t5.toNat (⟨(nth (g220.c0.set g220.t5.toNat (⟨g220.t1, (nth g220.c0 g220.t5.toNat).Version, (nth g220.c0 g220.t5.toNat).Kind, (nth g220.c0 g220.t5.toNat).Name⟩ : EventT)) g220.t5.toNat).Id, (wI (g220.t1 + 1)), (nth (g220.c0.set g220.t5.toNat (⟨g220.t1, (nth g220.c0 g220.t5.toNat).Version, (nth g220.c0 g220.t5.toNat).Kind, (nth g220.c0 g220.t5.toNat).Name⟩ : EventT)) g220.t5.toNat).Kind, (nth (g220.c0.set g220.t5.toNat (⟨g220.t1, (nth g220.c0 g220.t5.toNat).Version, (nth g220.c0 g220.t5.toNat).Kind, (nth g220.c0 g220.t5.toNat).Name⟩ : EventT)) g220.t5.toNat).Name⟩ : EventT)) g220.t5.toNat).Name⟩ : EventT)) g220.t5.toNat).Version, (nth (((g220.c0.set g220.t5.toNat (⟨g220.t1, (nth g220.c0 g220.t5.toNat).Version, (nth g220.c0 g220.t5.toNat).Kind, (nth g220.c0 g220.t5.toNat).Name⟩ : EventT)).set g220.t5.toNat (⟨(nth (g220.c0.set g220.t5.toNat (⟨g220.t1, (nth g220.c0 g220.t5.toNat).Version, (nth g220.c0 g220.t5.toNat).Kind, (nth g220.c0 g220.t5.toNat).Name⟩ : EventT)) g220.t5.toNat).Id, (wI (g220.t1 + 1)), (nth (g220.c0.set g220.t5.toNat (⟨g220.t1, (nth g220.c0 g220.t5.toNat).Version, (nth g220.c0 g220.t5.toNat).Kind, (nth g220.c0 g220.t5.toNat).Name⟩ : EventT)) g220.t5.toNat).Kind, (nth (g220.c0.set g220.t5.toNat (⟨g220.t1, (nth g220.c0 g220.t5.toNat).Version, (nth g220.c0 g220.t5.toNat).Kind, (nth g220.c0 g220.t5.toNat).Name⟩ : EventT)) g220.t5.toNat).Name⟩ : EventT)).set g220.t5.toNat (⟨(nth ((g220.c0.set g220.t5.toNat (⟨g220.t1, (nth g220.c0 g220.t5.toNat).Version, (nth g220.c0 g220.t5.toNat).Kind, (nth g220.c0 g220.t5.toNat).Name⟩ : EventT)).set g220.t5.toNat (⟨(nth (g220.c0.set g220.t5.toNat (⟨g220.t1, (nth g220.c0 g220.t5.toNat).Version, (nth g220.c0 g220.t5.toNat).Kind, (nth g220.c0 g220.t5.toNat).Name⟩ : EventT)) g220.t5.toNat).Id, (wI (g220.t1 + 1)), (nth (g220.c0.set g220.t5.toNat (⟨g220.t1, (nth g220.c0 g220.t5.toNat).Version, (nth g220.c0 g220.t5.toNat).Kind, (nth g220.c0 g220.t5.toNat).Name⟩ : EventT)) g220.t5.toNat).Kind, (nth (g220.c0.set g220.t5.toNat (⟨g220.t1, (nth g220.c0 g220.t5.toNat).Version, (nth g220.c0 g220.t5.toNat).Kind, (nth g220.c0 g220.t5.toNat).Name⟩ : EventT)) g220.t5.toNat).Name⟩ : EventT)) g220.t5.toNat).Id, (nth ((g220.c0.set g220.t5.toNat (⟨g220.t1, (nth g220.c0 g220.t5.toNat).Version, (nth g220.c0 g220.t5.toNat).Kind, (nth g220.c0 g220.t5.toNat).Name⟩ : EventT)).set g220.t5.toNat (⟨(nth (g220.c0.set g220.t5.toNat (⟨g220.t1, (nth g220.c0 g220.t5.toNat).Version, (nth g220.c0 g220.t5.toNat).Kind, (nth g220.c0 g220.t5.toNat).Name⟩ : EventT)) g220.t5.toNat).Id, (wI (g220.t1 + 1)), (nth (g220.c0.set g220.t5.toNat (⟨g220.t1, (nth g220.c0 g220.t5.toNat).Version, (nth g220.c0 g220.t5.toNat).Kind, (nth g220.c0 g220.t5.toNat).Name⟩ : EventT)) g220.t5.toNat).Kind, (nth (g220.c0.set g220.t5.toNat (⟨g220.t1, (nth g220.c0 g220.t5.toNat).Version, (nth g220.c0 g220.t5.toNat).Kind, (nth g220.c0 g220.t5.toNat).Name⟩ : EventT)) g220.t5.toNat).Name⟩ : EventT)) g220.t5.toNat).Version, (wI ((wI (g220.t1 + 1)) + 1)), (nth ((g220.c0.set g220.t5.toNat (⟨g220.t1, (nth g220.c0 g220.t5.toNat).Version, (nth g220.c0 g220.t5.toNat).Kind, (nth g220.c0 g220.t5.toNat).Name⟩ : EventT)).set g220.t5.toNat (⟨(nth (g220.c0.set g220.t5.toNat (⟨g220.t1, (nth g220.c0 g220.t5.toNat).Version, (nth g220.c0 g220.t5.toNat).Kind, (nth g220.c0 g220.t5.toNat).Name⟩ : EventT)) g220.t5.toNat).Id, (wI (g220.t1 + 1)), (nth (g220.c0.set g220.t5.toNat (⟨g220.t1, (nth g220.c0 g220.t5.toNat).Version, (nth g220.c0 g220.t5.toNat).Kind, (nth g220.c0 g220.t5.toNat).Name⟩ : EventT)) g220.t5.toNat).Kind, (nth (g220.c0.set g220.t5.toNat (⟨g220.t1, (nth g220.c0 g220.t5.toNat).Version, (nth g220.c0 g220.t5.toNat).Kind, (nth g220.c0 g220.t5.toNat).Name⟩ : EventT)) g220.t5.toNat).Name⟩ : EventT)) g220.t5.toNat).Name⟩ : EventT)) g220.t5.toNat).Kind, c224⟩ : EventT))⟩))))))
  else
    some (.inr (⟨g220.t1, g220.c0⟩)))
noncomputable def laws_markEventS_w (a0 : (List EventT)) (a1 : Int) : Option (Int × (List EventT)) :=
  ((loopF (laws_markEventS_w_L1) ⟨a1, 0, a0⟩).bind fun y225 =>
  some (y225.t1, y225.c0))
structure laws_FnExactSignalsIn_J4008 where
  t40 : Bool
structure laws_FnExactSignalsIn_J4014 where
  t61 : Bool
structure laws_FnExactSignalsIn_J4025 where
  t87 : Bool
noncomputable def laws_FnExactSignalsIn (a0 : (List EventT)) : Option Bool :=
  ((laws_szEventS a0 1048576).bind fun c202 =>
  (if (decide (c202 < 0)) = true then
    some true
  else
    ((laws_toEventS a0).bind fun c203 =>
    ((spec_SignalsIn c203).bind fun c206 =>
    ((laws_toEventS a0).bind fun c207 =>
    ((impl_SignalsIn c207).bind fun c210 =>
    ((((laws_eqStringS c210.1 c206.1).bind fun c215 =>
      (if (!c215) = true then
        some (⟨true⟩ : laws_FnExactSignalsIn_J4008)
      else
        some (⟨(!(c210.2 == c206.2))⟩ : laws_FnExactSignalsIn_J4008))) : Option laws_FnExactSignalsIn_J4008).bind fun p216 =>
    (if p216.t40 = true then
      some false
    else
      ((laws_toEventS a0).bind fun c217 =>
      ((laws_eqEventS c207 c217).bind fun c218 =>
      (if (!c218) = true then
        some false
      else
        ((laws_markEventS_w c207 1).bind fun c226 =>
        (guardO (c226.2.length = c207.length) <|
        (((if (decide (c226.1 < 0)) = true then
            some (⟨true⟩ : laws_FnExactSignalsIn_J4014)
          else
            ((laws_eqStringS c210.1 c206.1).bind fun c227 =>
            (if (!c227) = true then
              some (⟨true⟩ : laws_FnExactSignalsIn_J4014)
            else
              some (⟨(!(c210.2 == c206.2))⟩ : laws_FnExactSignalsIn_J4014)))) : Option laws_FnExactSignalsIn_J4014).bind fun p228 =>
        (if p228.t61 = true then
          some false
        else
          ((laws_markStringS_w c210.1 1).bind fun c235 =>
          (guardO (c235.2.length = c210.1.length) <|
          ((laws_heldStringS c235.2 1).bind fun c242 =>
          (if (decide (c242 < 0)) = true then
            some false
          else
            (if (c242 != c235.1) = true then
              some false
            else
              ((laws_toEventS a0).bind fun c243 =>
              ((impl_SignalsIn c243).bind fun c244 =>
              ((((laws_eqStringS c244.1 c206.1).bind fun c245 =>
                (if (!c245) = true then
                  some (⟨true⟩ : laws_FnExactSignalsIn_J4025)
                else
                  some (⟨(!(c244.2 == c206.2))⟩ : laws_FnExactSignalsIn_J4025))) : Option laws_FnExactSignalsIn_J4025).bind fun p246 =>
              (if p246.t87 = true then
                some false
              else
                ((laws_heldStringS c235.2 1).bind fun c247 =>
                (if (decide (c247 < 0)) = true then
                  some false
                else
                  (if (c247 != c235.1) = true then
                    some false
                  else
                    some true)))))))))))))))))))))))))))
structure spec_l12Fold_w_G1 where
  t12 : Int
  b2_0 : Int
  b2_1 : Int
  b2_2 : Bool
  b2_3 : Int
  b2_4 : (List ByteArray)
  b2_5 : (List ByteArray)
structure spec_l12Fold_w_P1_0 where
  t3 : Int
  b1_0 : Int
  b1_1 : Int
  b1_2 : Bool
  b1_3 : Int
  b1_4 : (List ByteArray)
  b1_5 : (List ByteArray)
structure spec_l12Fold_w_P1_1 where
  b2_0 : Int
  b2_1 : Int
  b2_2 : Bool
  b2_3 : Int
  b2_4 : (List ByteArray)
  b2_5 : (List ByteArray)
noncomputable def spec_l12Fold_w_L1 (a0 : (List EventT)) (g252 : spec_l12Fold_w_G1) : Option (spec_l12Fold_w_G1 ⊕ (spec_l12Fold_w_P1_0 ⊕ spec_l12Fold_w_P1_1)) :=
  (if (decide (g252.t12 < ((a0.length : Nat) : Int))) = true then
    (guardO (0 ≤ g252.t12 ∧ g252.t12 < ((a0.length : Nat) : Int)) <|
    ((spec_l12Apply (⟨g252.b2_0, g252.b2_1, g252.b2_2, g252.b2_3, g252.b2_4, g252.b2_5⟩ : StateT) (nth a0 g252.t12.toNat)).bind fun c254 =>
    (if (!c254.2) = true then
      some (.inr (.inl (⟨g252.t12, g252.b2_0, g252.b2_1, g252.b2_2, g252.b2_3, g252.b2_4, g252.b2_5⟩)))
    else
      some (.inl ⟨(wI (g252.t12 + 1)), c254.1.Status, c254.1.Next, c254.1.Cancel, c254.1.Done, c254.1.Signals, c254.1.Timers⟩))))
  else
    some (.inr (.inr (⟨g252.b2_0, g252.b2_1, g252.b2_2, g252.b2_3, g252.b2_4, g252.b2_5⟩))))
noncomputable def spec_l12Fold_w (a0 : (List EventT)) : Option (StateT × Int) :=
  ((spec_NewState).bind fun c251 =>
  ((loopF (spec_l12Fold_w_L1 a0) ⟨0, c251.Status, c251.Next, c251.Cancel, c251.Done, [], []⟩).bind fun y255 =>
  match y255 with
  | .inl p256 =>
    some ((⟨p256.b1_0, p256.b1_1, p256.b1_2, p256.b1_3, p256.b1_4, p256.b1_5⟩ : StateT), p256.t3)
  | .inr p257 =>
    some ((⟨p257.b2_0, p257.b2_1, p257.b2_2, p257.b2_3, p257.b2_4, p257.b2_5⟩ : StateT), ((a0.length : Nat) : Int))))
noncomputable def spec_FoldEvents_w (a0 : (List EventT)) : Option (StateT × Int) :=
  ((spec_l12Fold_w a0).bind fun c258 =>
  some (c258.1, c258.2))
noncomputable def laws_eqState (a0 : StateT) (a1 : StateT) : Option Bool :=
  (if (a0.Status != a1.Status) = true then
    some false
  else
    (if (a0.Next != a1.Next) = true then
      some false
    else
      (if (!(a0.Cancel == a1.Cancel)) = true then
        some false
      else
        (if (a0.Done != a1.Done) = true then
          some false
        else
          ((laws_eqStringS a0.Signals a1.Signals).bind fun c262 =>
          (if (!c262) = true then
            some false
          else
            ((laws_eqStringS a0.Timers a1.Timers).bind fun c263 =>
            (if (!c263) = true then
              some false
            else
              some true))))))))
noncomputable def laws_markState_ww (a0 : StateT) (a1 : Int) : Option (Int × (List ByteArray) × (List ByteArray)) :=
  ((laws_markStringS_w a0.Signals a1).bind fun c271 =>
  (guardO (c271.2.length = a0.Signals.length) <|
  ((laws_markStringS_w a0.Timers c271.1).bind fun c272 =>
  (guardO (c272.2.length = a0.Timers.length) <|
  some (c272.1, c271.2, c272.2)))))
noncomputable def laws_heldState (a0 : StateT) (a1 : Int) : Option Int :=
  ((laws_heldStringS a0.Signals a1).bind fun c274 =>
  (if (decide (c274 < 0)) = true then
    some (-1)
  else
    ((laws_heldStringS a0.Timers c274).bind fun c275 =>
    (if (decide (c275 < 0)) = true then
      some (-1)
    else
      some c275))))
structure laws_FnExactFoldEvents_J4008 where
  t40 : Bool
structure laws_FnExactFoldEvents_J4014 where
  t61 : Bool
structure laws_FnExactFoldEvents_J4025 where
  t87 : Bool
noncomputable def laws_FnExactFoldEvents (a0 : (List EventT)) : Option Bool :=
  ((laws_szEventS a0 1048576).bind fun c248 =>
  (if (decide (c248 < 0)) = true then
    some true
  else
    ((laws_toEventS a0).bind fun c249 =>
    ((spec_FoldEvents_w c249).bind fun c259 =>
    ((laws_toEventS a0).bind fun c260 =>
    ((impl_FoldEvents c260).bind fun c261 =>
    ((((laws_eqState c261.1 c259.1).bind fun c264 =>
      (if (!c264) = true then
        some (⟨true⟩ : laws_FnExactFoldEvents_J4008)
      else
        some (⟨(c261.2 != c259.2)⟩ : laws_FnExactFoldEvents_J4008))) : Option laws_FnExactFoldEvents_J4008).bind fun p265 =>
    (if p265.t40 = true then
      some false
    else
      ((laws_toEventS a0).bind fun c266 =>
      ((laws_eqEventS c260 c266).bind fun c267 =>
      (if (!c267) = true then
        some false
      else
        ((laws_markEventS_w c260 1).bind fun c268 =>
        (guardO (c268.2.length = c260.length) <|
        (((if (decide (c268.1 < 0)) = true then
            some (⟨true⟩ : laws_FnExactFoldEvents_J4014)
          else
            ((laws_eqState c261.1 c259.1).bind fun c269 =>
            (if (!c269) = true then
              some (⟨true⟩ : laws_FnExactFoldEvents_J4014)
            else
              some (⟨(c261.2 != c259.2)⟩ : laws_FnExactFoldEvents_J4014)))) : Option laws_FnExactFoldEvents_J4014).bind fun p270 =>
        (if p270.t61 = true then
          some false
        else
          ((laws_markState_ww c261.1 1).bind fun c273 =>
          (guardO (c273.2.1.length = c261.1.Signals.length) <|
          (guardO (c273.2.2.length = c261.1.Timers.length) <|
          ((laws_heldState (⟨c261.1.Status, c261.1.Next, c261.1.Cancel, c261.1.Done, c273.2.1, c273.2.2⟩ : StateT) 1).bind fun c276 =>
          (if (decide (c276 < 0)) = true then
            some false
          else
            (if (c276 != c273.1) = true then
              some false
            else
              ((laws_toEventS a0).bind fun c277 =>
              ((impl_FoldEvents c277).bind fun c278 =>
              ((((laws_eqState c278.1 c259.1).bind fun c279 =>
                (if (!c279) = true then
                  some (⟨true⟩ : laws_FnExactFoldEvents_J4025)
                else
                  some (⟨(c278.2 != c259.2)⟩ : laws_FnExactFoldEvents_J4025))) : Option laws_FnExactFoldEvents_J4025).bind fun p280 =>
              (if p280.t87 = true then
                some false
              else
                ((laws_heldState (⟨c261.1.Status, c261.1.Next, c261.1.Cancel, c261.1.Done, c273.2.1, c273.2.2⟩ : StateT) 1).bind fun c281 =>
                (if (decide (c281 < 0)) = true then
                  some false
                else
                  (if (c281 != c273.1) = true then
                    some false
                  else
                    some true))))))))))))))))))))))))))))
structure spec_BranchLess_J4001 where
  t15 : Bool
noncomputable def spec_BranchLess (a0 : (List EventT)) (a1 : (List EventT)) : Option (Bool × Bool) :=
  ((((spec_l15History a0).bind fun c286 =>
    (if (!c286) = true then
      some (⟨true⟩ : spec_BranchLess_J4001)
    else
      ((spec_l15History a1).bind fun c287 =>
      some (⟨(!c287)⟩ : spec_BranchLess_J4001)))) : Option spec_BranchLess_J4001).bind fun p288 =>
  (if p288.t15 = true then
    some (false, false)
  else
    ((spec_l15Compare a0 a1).bind fun c289 =>
    some ((decide (c289.1 < 0)), true))))
noncomputable def impl_isTelling (a0 : (List EventT)) : Option Bool :=
  (if (decide (((a0.length : Nat) : Int) > 0)) = true then
    ((impl_IsHistory a0).bind fun c293 =>
    some c293)
  else
    some false)
noncomputable def impl_eventOrder (a0 : EventT) (a1 : EventT) : Option Int :=
  ((cmp_Compare_int a0.Version a1.Version).bind fun c300 =>
  ((cmp_Compare_int a0.Kind a1.Kind).bind fun c301 =>
  ((cmp_Compare_string a0.Name a1.Name).bind fun c304 =>
  ((cmp_Or_int ([c300, c301, c304])).bind fun c309 =>
  some c309))))
structure slices_CompareFunc_impl_Event_impl_eventOrder_G1 where
  t13 : Int
structure slices_CompareFunc_impl_Event_impl_eventOrder_P1_0 where
  t6 : Int
noncomputable def slices_CompareFunc_impl_Event_impl_eventOrder_L1 (a0 : (List EventT)) (a1 : (List EventT)) (g297 : slices_CompareFunc_impl_Event_impl_eventOrder_G1) : Option (slices_CompareFunc_impl_Event_impl_eventOrder_G1 ⊕ (slices_CompareFunc_impl_Event_impl_eventOrder_P1_0 ⊕ Unit)) :=
  (if (decide (g297.t13 < ((a0.length : Nat) : Int))) = true then
    (guardO (0 ≤ g297.t13 ∧ g297.t13 < (a0.length : Int)) <|
    (if (decide (g297.t13 ≥ ((a1.length : Nat) : Int))) = true then
      some (.inr (.inl (⟨1⟩)))
    else
      (guardO (0 ≤ g297.t13 ∧ g297.t13 < (a1.length : Int)) <|
      ((impl_eventOrder (nth a0 g297.t13.toNat) (nth a1 g297.t13.toNat)).bind fun c311 =>
      (if (c311 != 0) = true then
        some (.inr (.inl (⟨c311⟩)))
      else
        some (.inl ⟨(wI (g297.t13 + 1))⟩))))))
  else
    some (.inr (.inr ())))
noncomputable def slices_CompareFunc_impl_Event_impl_eventOrder (a0 : (List EventT)) (a1 : (List EventT)) : Option Int :=
  ((loopF (slices_CompareFunc_impl_Event_impl_eventOrder_L1 a0 a1) ⟨0⟩).bind fun y312 =>
  match y312 with
  | .inl p313 =>
    some p313.t6
  | .inr p314 =>
    (if (decide (((a0.length : Nat) : Int) < ((a1.length : Nat) : Int))) = true then
      some (-1)
    else
      some 0))
noncomputable def impl_branchOrder (a0 : (List EventT)) (a1 : (List EventT)) : Option Int :=
  ((slices_CompareFunc_impl_Event_impl_eventOrder a0 a1).bind fun c315 =>
  some c315)
structure impl_BranchLess_J4001 where
  t13 : Bool
noncomputable def impl_BranchLess (a0 : (List EventT)) (a1 : (List EventT)) : Option (Bool × Bool) :=
  ((((impl_isTelling a0).bind fun c294 =>
    (if (!c294) = true then
      some (⟨true⟩ : impl_BranchLess_J4001)
    else
      ((impl_isTelling a1).bind fun c295 =>
      some (⟨(!c295)⟩ : impl_BranchLess_J4001)))) : Option impl_BranchLess_J4001).bind fun p296 =>
  (if p296.t13 = true then
    some (false, false)
  else
    ((impl_branchOrder a0 a1).bind fun c316 =>
    some ((decide (c316 < 0)), true))))
structure laws_FnExactBranchLess_J4012 where
  t47 : Bool
noncomputable def laws_FnExactBranchLess (a0 : (List EventT)) (a1 : (List EventT)) : Option Bool :=
  ((laws_szEventS a0 1048576).bind fun c282 =>
  (if (decide (c282 < 0)) = true then
    some true
  else
    ((laws_szEventS a1 c282).bind fun c283 =>
    (if (decide (c283 < 0)) = true then
      some true
    else
      ((laws_toEventS a0).bind fun c284 =>
      ((laws_toEventS a1).bind fun c285 =>
      ((spec_BranchLess c284 c285).bind fun c290 =>
      ((laws_toEventS a0).bind fun c291 =>
      ((laws_toEventS a1).bind fun c292 =>
      ((impl_BranchLess c291 c292).bind fun c317 =>
      (((if (!(c317.1 == c290.1)) = true then
          some (⟨true⟩ : laws_FnExactBranchLess_J4012)
        else
          some (⟨(!(c317.2 == c290.2))⟩ : laws_FnExactBranchLess_J4012)) : Option laws_FnExactBranchLess_J4012).bind fun p318 =>
      (if p318.t47 = true then
        some false
      else
        ((laws_toEventS a0).bind fun c319 =>
        ((laws_eqEventS c291 c319).bind fun c320 =>
        (if (!c320) = true then
          some false
        else
          ((laws_toEventS a1).bind fun c321 =>
          ((laws_eqEventS c292 c321).bind fun c322 =>
          (if (!c322) = true then
            some false
          else
            some true))))))))))))))))))
structure BranchT where
  Events : (List EventT)
  deriving DecidableEq, Inhabited
structure TellingsT where
  Branches : (List BranchT)
  deriving DecidableEq, Inhabited
noncomputable def laws_szBranch (a0 : BranchT) (a1 : Int) : Option Int :=
  ((laws_szEventS a0.Events a1).bind fun c324 =>
  (if (decide (c324 < 0)) = true then
    some (-1)
  else
    some c324))
structure laws_szBranchS_G1 where
  t1 : Int
  t5 : Int
structure laws_szBranchS_P1_1 where
  t1 : Int
noncomputable def laws_szBranchS_L1 (a0 : (List BranchT)) (g323 : laws_szBranchS_G1) : Option (laws_szBranchS_G1 ⊕ (Unit ⊕ laws_szBranchS_P1_1)) :=
  (if (decide (g323.t5 < ((a0.length : Nat) : Int))) = true then
    (guardO (0 ≤ g323.t5 ∧ g323.t5 < (a0.length : Int)) <|
    ((laws_szBranch (nth a0 g323.t5.toNat) g323.t1).bind fun c326 =>
    (if (decide (c326 < 0)) = true then
      some (.inr (.inl ()))
    else
      some (.inl ⟨c326, (wI (g323.t5 + 1))⟩))))
  else
    some (.inr (.inr (⟨g323.t1⟩))))
noncomputable def laws_szBranchS (a0 : (List BranchT)) (a1 : Int) : Option Int :=
  (if (decide ((wI (a1 - ((a0.length : Nat) : Int))) < 0)) = true then
    some (-1)
  else
    ((loopF (laws_szBranchS_L1 a0) ⟨(wI (a1 - ((a0.length : Nat) : Int))), 0⟩).bind fun y327 =>
    match y327 with
    | .inl p328 =>
      some (-1)
    | .inr p329 =>
      some p329.t1))
noncomputable def laws_szTellings (a0 : TellingsT) (a1 : Int) : Option Int :=
  ((laws_szBranchS a0.Branches a1).bind fun c330 =>
  (if (decide (c330 < 0)) = true then
    some (-1)
  else
    some c330))
noncomputable def laws_toBranch_F (a0 : BranchT) : Option BranchT :=
  ((laws_toEventS a0.Events).bind fun c336 =>
  some (⟨c336⟩ : BranchT))
structure laws_toBranchS_G1 where
  t4 : Int
  c0 : (List BranchT)
structure laws_toBranchS_P1_0 where
  c0 : (List BranchT)
noncomputable def laws_toBranchS_L1 (a0 : (List BranchT)) (g335 : laws_toBranchS_G1) : Option (laws_toBranchS_G1 ⊕ laws_toBranchS_P1_0) :=
  (if (decide (g335.t4 < ((a0.length : Nat) : Int))) = true then
    (guardO (0 ≤ g335.t4 ∧ g335.t4 < (a0.length : Int)) <|
    ((laws_toBranch_F (nth a0 g335.t4.toNat)).bind fun c338 =>
    (guardO (0 ≤ g335.t4 ∧ g335.t4 < ((g335.c0.length : Nat) : Int)) <|
    some (.inl ⟨(wI (g335.t4 + 1)), (g335.c0.set g335.t4.toNat c338)⟩))))
  else
    some (.inr (⟨g335.c0⟩)))
noncomputable def laws_toBranchS (a0 : (List BranchT)) : Option (List BranchT) :=
  (guardO (0 ≤ ((a0.length : Nat) : Int) ∧ ((a0.length : Nat) : Int) * 24 ≤ 281474976710656 ∧ ((a0.length : Nat) : Int) ≤ 9223372036854775807) <|
  ((loopF (laws_toBranchS_L1 a0) ⟨0, (List.replicate a0.length (⟨[]⟩ : BranchT))⟩).bind fun y339 =>
  some y339.c0))
noncomputable def laws_toTellings (a0 : TellingsT) : Option TellingsT :=
  ((laws_toBranchS a0.Branches).bind fun c340 =>
  some (⟨c340⟩ : TellingsT))
noncomputable def spec_l15Begins (a0 : (List EventT)) (a1 : (List EventT)) : Option Bool :=
  ((spec_l15Compare a0 a1).bind fun c346 =>
  some (c346.2 == ((a1.length : Nat) : Int)))
structure spec_GoodTellings_G1 where
  t12 : Int
structure spec_GoodTellings_G2 where
  t26 : Int
structure spec_GoodTellings_J34010 where
  t52 : Bool
noncomputable def spec_GoodTellings_L2 (a0 : TellingsT) (g342 : spec_GoodTellings_G1) (g356 : spec_GoodTellings_G2) : Option (spec_GoodTellings_G2 ⊕ (Unit ⊕ Unit)) :=
  (if (decide (g356.t26 < (((a0.Branches.take g342.t12.toNat).length : Nat) : Int))) = true then
    (guardO (0 ≤ g356.t26 ∧ g356.t26 < ((a0.Branches.take g342.t12.toNat).length : Int)) <|
    ((spec_l15Compare ((nth (a0.Branches.take g342.t12.toNat) g356.t26.toNat).Events) ((nth a0.Branches g342.t12.toNat).Events)).bind fun c360 =>
    (((if (decide (c360.1 ≥ 0)) = true then
        some (⟨true⟩ : spec_GoodTellings_J34010)
      else
        ((spec_l15Begins ((nth a0.Branches g342.t12.toNat).Events) ((nth (a0.Branches.take g342.t12.toNat) g356.t26.toNat).Events)).bind fun c361 =>
        (if c361 = true then
          some (⟨true⟩ : spec_GoodTellings_J34010)
        else
          some (⟨(decide (g356.t26 > g342.t12))⟩ : spec_GoodTellings_J34010)))) : Option spec_GoodTellings_J34010).bind fun p362 =>
    (if p362.t52 = true then
      some (.inr (.inl ()))
    else
      some (.inl ⟨(wI (g356.t26 + 1))⟩)))))
  else
    some (.inr (.inr ())))
noncomputable def spec_GoodTellings_L1 (a0 : TellingsT) (g342 : spec_GoodTellings_G1) : Option (spec_GoodTellings_G1 ⊕ (Unit ⊕ Unit)) :=
  (if (decide (g342.t12 < ((a0.Branches.length : Nat) : Int))) = true then
    (guardO (0 ≤ g342.t12 ∧ g342.t12 < (a0.Branches.length : Int)) <|
    ((spec_l15History ((nth a0.Branches g342.t12.toNat).Events)).bind fun c355 =>
    (if (!c355) = true then
      some (.inr (.inl ()))
    else
      (guardO (0 ≤ g342.t12 ∧ g342.t12 ≤ (a0.Branches.length : Int)) <|
      ((loopF (spec_GoodTellings_L2 a0 g342) ⟨0⟩).bind fun y363 =>
      match y363 with
      | .inl p364 =>
        some (.inr (.inl ()))
      | .inr p365 =>
        some (.inl ⟨(wI (g342.t12 + 1))⟩))))))
  else
    some (.inr (.inr ())))
noncomputable def spec_GoodTellings (a0 : TellingsT) : Option Bool :=
  ((loopF (spec_GoodTellings_L1 a0) ⟨0⟩).bind fun y366 =>
  match y366 with
  | .inl p367 =>
    some false
  | .inr p368 =>
    some (decide (((a0.Branches.length : Nat) : Int) ≤ 12)))
structure slices_Equal_impl_Event_G1 where
  t13 : Int
noncomputable def slices_Equal_impl_Event_L1 (a0 : (List EventT)) (a1 : (List EventT)) (g375 : slices_Equal_impl_Event_G1) : Option (slices_Equal_impl_Event_G1 ⊕ (Unit ⊕ Unit)) :=
  (if (decide (g375.t13 < ((a0.length : Nat) : Int))) = true then
    (guardO (0 ≤ g375.t13 ∧ g375.t13 < (a0.length : Int)) <|
    (guardO (0 ≤ g375.t13 ∧ g375.t13 < (a1.length : Int)) <|
    (if (!((((nth a0 g375.t13.toNat).Id) == ((nth a1 g375.t13.toNat).Id)) && ((((nth a0 g375.t13.toNat).Version) == ((nth a1 g375.t13.toNat).Version)) && ((((nth a0 g375.t13.toNat).Kind) == ((nth a1 g375.t13.toNat).Kind)) && (((nth a0 g375.t13.toNat).Name).toList == ((nth a1 g375.t13.toNat).Name).toList))))) = true then
      some (.inr (.inl ()))
    else
      some (.inl ⟨(wI (g375.t13 + 1))⟩))))
  else
    some (.inr (.inr ())))
noncomputable def slices_Equal_impl_Event (a0 : (List EventT)) (a1 : (List EventT)) : Option Bool :=
  (if (((a0.length : Nat) : Int) != ((a1.length : Nat) : Int)) = true then
    some false
  else
    ((loopF (slices_Equal_impl_Event_L1 a0 a1) ⟨0⟩).bind fun y376 =>
    match y376 with
    | .inl p377 =>
      some false
    | .inr p378 =>
      some true))
noncomputable def impl_begins (a0 : (List EventT)) (a1 : (List EventT)) : Option Bool :=
  (if (decide (((a0.length : Nat) : Int) ≤ ((a1.length : Nat) : Int))) = true then
    (guardO (0 ≤ ((a0.length : Nat) : Int) ∧ ((a0.length : Nat) : Int) ≤ (a1.length : Int)) <|
    ((slices_Equal_impl_Event a0 (a1.take a0.length)).bind fun c379 =>
    some c379))
  else
    some false)
structure impl_GoodTellings_G1 where
  t14 : Int
structure impl_GoodTellings_G2 where
  t28 : Int
structure impl_GoodTellings_J34011 where
  t44 : Bool
noncomputable def impl_GoodTellings_L2 (a0 : TellingsT) (g371 : impl_GoodTellings_G1) (g389 : impl_GoodTellings_G2) : Option (impl_GoodTellings_G2 ⊕ (Unit ⊕ Unit)) :=
  (if (decide (g389.t28 < (((a0.Branches.take g371.t14.toNat).length : Nat) : Int))) = true then
    (guardO (0 ≤ g389.t28 ∧ g389.t28 < ((a0.Branches.take g371.t14.toNat).length : Int)) <|
    ((((impl_branchOrder ((nth (a0.Branches.take g371.t14.toNat) g389.t28.toNat).Events) ((nth a0.Branches g371.t14.toNat).Events)).bind fun c393 =>
      (if (decide (c393 ≥ 0)) = true then
        some (⟨true⟩ : impl_GoodTellings_J34011)
      else
        ((impl_begins ((nth (a0.Branches.take g371.t14.toNat) g389.t28.toNat).Events) ((nth a0.Branches g371.t14.toNat).Events)).bind fun c394 =>
        some (⟨c394⟩ : impl_GoodTellings_J34011)))) : Option impl_GoodTellings_J34011).bind fun p395 =>
    (if p395.t44 = true then
      some (.inr (.inl ()))
    else
      some (.inl ⟨(wI (g389.t28 + 1))⟩))))
  else
    some (.inr (.inr ())))
noncomputable def impl_GoodTellings_L1 (a0 : TellingsT) (g371 : impl_GoodTellings_G1) : Option (impl_GoodTellings_G1 ⊕ (Unit ⊕ Unit)) :=
  (if (decide (g371.t14 < ((a0.Branches.length : Nat) : Int))) = true then
    (guardO (0 ≤ g371.t14 ∧ g371.t14 < (a0.Branches.length : Int)) <|
    ((impl_isTelling ((nth a0.Branches g371.t14.toNat).Events)).bind fun c388 =>
    (if (!c388) = true then
      some (.inr (.inl ()))
    else
      (guardO (0 ≤ g371.t14 ∧ g371.t14 ≤ (a0.Branches.length : Int)) <|
      ((loopF (impl_GoodTellings_L2 a0 g371) ⟨0⟩).bind fun y396 =>
      match y396 with
      | .inl p397 =>
        some (.inr (.inl ()))
      | .inr p398 =>
        some (.inl ⟨(wI (g371.t14 + 1))⟩))))))
  else
    some (.inr (.inr ())))
noncomputable def impl_GoodTellings (a0 : TellingsT) : Option Bool :=
  (if (decide (((a0.Branches.length : Nat) : Int) > 12)) = true then
    some false
  else
    ((loopF (impl_GoodTellings_L1 a0) ⟨0⟩).bind fun y399 =>
    match y399 with
    | .inl p400 =>
      some false
    | .inr p401 =>
      some true))
noncomputable def laws_eqBranch (a0 : BranchT) (a1 : BranchT) : Option Bool :=
  ((laws_eqEventS a0.Events a1.Events).bind fun c405 =>
  (if (!c405) = true then
    some false
  else
    some true))
structure laws_eqBranchS_G1 where
  t5 : Int
noncomputable def laws_eqBranchS_L1 (a0 : (List BranchT)) (a1 : (List BranchT)) (g404 : laws_eqBranchS_G1) : Option (laws_eqBranchS_G1 ⊕ (Unit ⊕ Unit)) :=
  (if (decide (g404.t5 < ((a0.length : Nat) : Int))) = true then
    (guardO (0 ≤ g404.t5 ∧ g404.t5 < (a0.length : Int)) <|
    (guardO (0 ≤ g404.t5 ∧ g404.t5 < (a1.length : Int)) <|
    ((laws_eqBranch (nth a0 g404.t5.toNat) (nth a1 g404.t5.toNat)).bind fun c407 =>
    (if (!c407) = true then
      some (.inr (.inl ()))
    else
      some (.inl ⟨(wI (g404.t5 + 1))⟩)))))
  else
    some (.inr (.inr ())))
noncomputable def laws_eqBranchS (a0 : (List BranchT)) (a1 : (List BranchT)) : Option Bool :=
  (if (((a0.length : Nat) : Int) != ((a1.length : Nat) : Int)) = true then
    some false
  else
    ((loopF (laws_eqBranchS_L1 a0 a1) ⟨0⟩).bind fun y408 =>
    match y408 with
    | .inl p409 =>
      some false
    | .inr p410 =>
      some true))
noncomputable def laws_eqTellings (a0 : TellingsT) (a1 : TellingsT) : Option Bool :=
  ((laws_eqBranchS a0.Branches a1.Branches).bind fun c411 =>
  (if (!c411) = true then
    some false
  else
    some true))
noncomputable def laws_FnExactGoodTellings (a0 : TellingsT) : Option Bool :=
  ((laws_szTellings a0 1048576).bind fun c331 =>
  (if (decide (c331 < 0)) = true then
    some true
  else
    ((laws_toTellings a0).bind fun c341 =>
    ((spec_GoodTellings c341).bind fun c369 =>
    ((laws_toTellings a0).bind fun c370 =>
    ((impl_GoodTellings c370).bind fun c402 =>
    (if (!(c402 == c369)) = true then
      some false
    else
      ((laws_toTellings a0).bind fun c403 =>
      ((laws_eqTellings c370 c403).bind fun c412 =>
      (if (!c412) = true then
        some false
      else
        some true))))))))))
end Go.TL
namespace Go.TL
structure spec_HasHistory_J4001 where
  t15 : Bool
structure spec_HasHistory_G1 where
  t19 : Int
noncomputable def spec_HasHistory_L1 (a0 : TellingsT) (a1 : (List EventT)) (g135 : spec_HasHistory_G1) : Option (spec_HasHistory_G1 ⊕ (Unit ⊕ Unit)) :=
  (if (decide (g135.t19 < ((a0.Branches.length : Nat) : Int))) = true then
    (guardO (0 ≤ g135.t19 ∧ g135.t19 < (a0.Branches.length : Int)) <|
    ((spec_l15Begins ((nth a0.Branches g135.t19.toNat).Events) a1).bind fun c137 =>
    (if c137 = true then
      some (.inr (.inl ()))
    else
      some (.inl ⟨(wI (g135.t19 + 1))⟩))))
  else
    some (.inr (.inr ())))
noncomputable def spec_HasHistory (a0 : TellingsT) (a1 : (List EventT)) : Option (Bool × Bool) :=
  ((((spec_GoodTellings a0).bind fun c132 =>
    (if (!c132) = true then
      some (⟨true⟩ : spec_HasHistory_J4001)
    else
      ((spec_l15History a1).bind fun c133 =>
      some (⟨(!c133)⟩ : spec_HasHistory_J4001)))) : Option spec_HasHistory_J4001).bind fun p134 =>
  (if p134.t15 = true then
    some (false, false)
  else
    ((loopF (spec_HasHistory_L1 a0 a1) ⟨0⟩).bind fun y138 =>
    match y138 with
    | .inl p139 =>
      some (true, true)
    | .inr p140 =>
      some (false, true))))
noncomputable def impl_HasHistory_c1_r (a0 : BranchT) (a1 : (List EventT)) : Option Bool :=
  ((impl_begins a1 a0.Events).bind fun c288 =>
  some c288)
structure slices_IndexFunc_impl_Branch_impl_HasHistory_c1r_G1 where
  t8 : Int
structure slices_IndexFunc_impl_Branch_impl_HasHistory_c1r_P1_0 where
  t4 : Int
noncomputable def slices_IndexFunc_impl_Branch_impl_HasHistory_c1r_L1 (a0 : (List BranchT)) (a1 : (List EventT)) (g287 : slices_IndexFunc_impl_Branch_impl_HasHistory_c1r_G1) : Option (slices_IndexFunc_impl_Branch_impl_HasHistory_c1r_G1 ⊕ (slices_IndexFunc_impl_Branch_impl_HasHistory_c1r_P1_0 ⊕ Unit)) :=
  (if (decide (g287.t8 < ((a0.length : Nat) : Int))) = true then
    (guardO (0 ≤ g287.t8 ∧ g287.t8 < (a0.length : Int)) <|
    ((impl_HasHistory_c1_r (nth a0 g287.t8.toNat) a1).bind fun c290 =>
    (if c290 = true then
      some (.inr (.inl (⟨g287.t8⟩)))
    else
      some (.inl ⟨(wI (g287.t8 + 1))⟩))))
  else
    some (.inr (.inr ())))
noncomputable def slices_IndexFunc_impl_Branch_impl_HasHistory_c1r (a0 : (List BranchT)) (a1 : (List EventT)) : Option Int :=
  ((loopF (slices_IndexFunc_impl_Branch_impl_HasHistory_c1r_L1 a0 a1) ⟨0⟩).bind fun y291 =>
  match y291 with
  | .inl p292 =>
    some p292.t4
  | .inr p293 =>
    some (-1))
noncomputable def slices_ContainsFunc_impl_Branch_impl_HasHistory_c1r (a0 : (List BranchT)) (a1 : (List EventT)) : Option Bool :=
  ((slices_IndexFunc_impl_Branch_impl_HasHistory_c1r a0 a1).bind fun c294 =>
  some (decide (c294 ≥ 0)))
structure impl_HasHistory_J4001 where
  t13 : Bool
noncomputable def impl_HasHistory (a0 : TellingsT) (a1 : (List EventT)) : Option (Bool × Bool) :=
  ((((impl_GoodTellings a0).bind fun c284 =>
    (if (!c284) = true then
      some (⟨true⟩ : impl_HasHistory_J4001)
    else
      ((impl_isTelling a1).bind fun c285 =>
      some (⟨(!c285)⟩ : impl_HasHistory_J4001)))) : Option impl_HasHistory_J4001).bind fun p286 =>
  (if p286.t13 = true then
    some (false, false)
  else
    ((slices_ContainsFunc_impl_Branch_impl_HasHistory_c1r a0.Branches a1).bind fun c295 =>
    some (c295, true))))
structure laws_FnExactHasHistory_J4012 where
  t47 : Bool
noncomputable def laws_FnExactHasHistory (a0 : TellingsT) (a1 : (List EventT)) : Option Bool :=
  ((laws_szTellings a0 1048576).bind fun c15 =>
  (if (decide (c15 < 0)) = true then
    some true
  else
    ((laws_szEventS a1 c15).bind fun c16 =>
    (if (decide (c16 < 0)) = true then
      some true
    else
      ((laws_toTellings a0).bind fun c30 =>
      ((laws_toEventS a1).bind fun c31 =>
      ((spec_HasHistory c30 c31).bind fun c141 =>
      ((laws_toTellings a0).bind fun c142 =>
      ((laws_toEventS a1).bind fun c143 =>
      ((impl_HasHistory c142 c143).bind fun c296 =>
      (((if (!(c296.1 == c141.1)) = true then
          some (⟨true⟩ : laws_FnExactHasHistory_J4012)
        else
          some (⟨(!(c296.2 == c141.2))⟩ : laws_FnExactHasHistory_J4012)) : Option laws_FnExactHasHistory_J4012).bind fun p297 =>
      (if p297.t47 = true then
        some false
      else
        ((laws_toTellings a0).bind fun c298 =>
        ((laws_eqTellings c142 c298).bind fun c313 =>
        (if (!c313) = true then
          some false
        else
          ((laws_toEventS a1).bind fun c314 =>
          ((laws_eqEventS c143 c314).bind fun c315 =>
          (if (!c315) = true then
            some false
          else
            some true))))))))))))))))))
end Go.TL

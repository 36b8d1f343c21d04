import Derived.Test.YtjhcfmcdllfmpaaDoorG0TlCore
set_option linter.unusedSimpArgs false
set_option linter.unusedVariables false
namespace Go.TL
structure PacketT where
  Ack : Bool
  No : Int
  Text : ByteArray
  deriving DecidableEq, Inhabited
structure QueueT where
  Window : Int
  Sent : (List ByteArray)
  Base : Int
  Got : (List ByteArray)
  Line : (List PacketT)
  deriving DecidableEq, Inhabited
structure laws_szStringS_G1 where
  t1 : Int
  t5 : Int
structure laws_szStringS_P1_1 where
  t1 : Int
noncomputable def laws_szStringS_L1 (a0 : (List ByteArray)) (g1 : laws_szStringS_G1) : Option (laws_szStringS_G1 ⊕ (Unit ⊕ laws_szStringS_P1_1)) :=
  (if (decide (g1.t5 < ((a0.length : Nat) : Int))) = true then
    (guardO (0 ≤ g1.t5 ∧ g1.t5 < (a0.length : Int)) <|
    (if (decide ((wI (g1.t1 - ((nth a0 g1.t5.toNat).size : Int))) < 0)) = true then
      some (.inr (.inl ()))
    else
      some (.inl ⟨(wI (g1.t1 - ((nth a0 g1.t5.toNat).size : Int))), (wI (g1.t5 + 1))⟩)))
  else
    some (.inr (.inr (⟨g1.t1⟩))))
noncomputable def laws_szStringS (a0 : (List ByteArray)) (a1 : Int) : Option Int :=
  (if (decide ((wI (a1 - ((a0.length : Nat) : Int))) < 0)) = true then
    some (-1)
  else
    ((loopF (laws_szStringS_L1 a0) ⟨(wI (a1 - ((a0.length : Nat) : Int))), 0⟩).bind fun y2 =>
    match y2 with
    | .inl p3 =>
      some (-1)
    | .inr p4 =>
      some p4.t1))
noncomputable def laws_szPacket (a0 : PacketT) (a1 : Int) : Option Int :=
  (if (decide ((wI (a1 - (a0.Text.size : Int))) < 0)) = true then
    some (-1)
  else
    some (wI (a1 - (a0.Text.size : Int))))
structure laws_szPacketS_G1 where
  t1 : Int
  t5 : Int
structure laws_szPacketS_P1_1 where
  t1 : Int
noncomputable def laws_szPacketS_L1 (a0 : (List PacketT)) (g7 : laws_szPacketS_G1) : Option (laws_szPacketS_G1 ⊕ (Unit ⊕ laws_szPacketS_P1_1)) :=
  (if (decide (g7.t5 < ((a0.length : Nat) : Int))) = true then
    (guardO (0 ≤ g7.t5 ∧ g7.t5 < (a0.length : Int)) <|
    ((laws_szPacket (nth a0 g7.t5.toNat) g7.t1).bind fun c9 =>
    (if (decide (c9 < 0)) = true then
      some (.inr (.inl ()))
    else
      some (.inl ⟨c9, (wI (g7.t5 + 1))⟩))))
  else
    some (.inr (.inr (⟨g7.t1⟩))))
noncomputable def laws_szPacketS (a0 : (List PacketT)) (a1 : Int) : Option Int :=
  (if (decide ((wI (a1 - ((a0.length : Nat) : Int))) < 0)) = true then
    some (-1)
  else
    ((loopF (laws_szPacketS_L1 a0) ⟨(wI (a1 - ((a0.length : Nat) : Int))), 0⟩).bind fun y10 =>
    match y10 with
    | .inl p11 =>
      some (-1)
    | .inr p12 =>
      some p12.t1))
noncomputable def laws_szQueue (a0 : QueueT) (a1 : Int) : Option Int :=
  ((laws_szStringS a0.Sent a1).bind fun c5 =>
  (if (decide (c5 < 0)) = true then
    some (-1)
  else
    ((laws_szStringS a0.Got c5).bind fun c6 =>
    (if (decide (c6 < 0)) = true then
      some (-1)
    else
      ((laws_szPacketS a0.Line c6).bind fun c13 =>
      (if (decide (c13 < 0)) = true then
        some (-1)
      else
        some c13))))))
structure laws_toStringS_G1 where
  t4 : Int
  c0 : (List ByteArray)
structure laws_toStringS_P1_0 where
  c0 : (List ByteArray)
noncomputable def laws_toStringS_L1 (a0 : (List ByteArray)) (g15 : laws_toStringS_G1) : Option (laws_toStringS_G1 ⊕ laws_toStringS_P1_0) :=
  (if (decide (g15.t4 < ((a0.length : Nat) : Int))) = true then
    (guardO (0 ≤ g15.t4 ∧ g15.t4 < (a0.length : Int)) <|
    (guardO (0 ≤ g15.t4 ∧ g15.t4 < ((g15.c0.length : Nat) : Int)) <|
    some (.inl ⟨(wI (g15.t4 + 1)), (g15.c0.set g15.t4.toNat (nth a0 g15.t4.toNat))⟩)))
  else
    some (.inr (⟨g15.c0⟩)))
noncomputable def laws_toStringS (a0 : (List ByteArray)) : Option (List ByteArray) :=
  (guardO (0 ≤ ((a0.length : Nat) : Int) ∧ ((a0.length : Nat) : Int) * 16 ≤ 281474976710656 ∧ ((a0.length : Nat) : Int) ≤ 9223372036854775807) <|
  ((loopF (laws_toStringS_L1 a0) ⟨0, (List.replicate a0.length ByteArray.empty)⟩).bind fun y16 =>
  some y16.c0))
noncomputable def laws_toPacket (a0 : PacketT) : Option PacketT :=
  some a0
structure laws_toPacketS_G1 where
  t4 : Int
  c0 : (List PacketT)
structure laws_toPacketS_P1_0 where
  c0 : (List PacketT)
noncomputable def laws_toPacketS_L1 (a0 : (List PacketT)) (g19 : laws_toPacketS_G1) : Option (laws_toPacketS_G1 ⊕ laws_toPacketS_P1_0) :=
  (if (decide (g19.t4 < ((a0.length : Nat) : Int))) = true then
    (guardO (0 ≤ g19.t4 ∧ g19.t4 < (a0.length : Int)) <|
    ((laws_toPacket (nth a0 g19.t4.toNat)).bind fun c21 =>
    (guardO (0 ≤ g19.t4 ∧ g19.t4 < ((g19.c0.length : Nat) : Int)) <|
    some (.inl ⟨(wI (g19.t4 + 1)), (g19.c0.set g19.t4.toNat c21)⟩))))
  else
    some (.inr (⟨g19.c0⟩)))
noncomputable def laws_toPacketS (a0 : (List PacketT)) : Option (List PacketT) :=
  (guardO (0 ≤ ((a0.length : Nat) : Int) ∧ ((a0.length : Nat) : Int) * 32 ≤ 281474976710656 ∧ ((a0.length : Nat) : Int) ≤ 9223372036854775807) <|
  ((loopF (laws_toPacketS_L1 a0) ⟨0, (List.replicate a0.length (⟨false, 0, ByteArray.empty⟩ : PacketT))⟩).bind fun y22 =>
  some y22.c0))
noncomputable def laws_toQueue (a0 : QueueT) : Option QueueT :=
  ((laws_toStringS a0.Sent).bind fun c17 =>
  ((laws_toStringS a0.Got).bind fun c18 =>
  ((laws_toPacketS a0.Line).bind fun c23 =>
  some (⟨a0.Window, c17, a0.Base, c18, c23⟩ : QueueT))))
noncomputable def spec_l1In (a0 : Int) (a1 : Int) (a2 : Int) : Option Bool :=
  (if (decide (a0 ≥ a1)) = true then
    some (decide (a0 ≤ a2))
  else
    some false)
structure spec_GoodQueue_J4001 where
  t40 : Bool
structure spec_GoodQueue_G1 where
  t44 : Int
structure spec_GoodQueue_J14006 where
  t67 : Bool
noncomputable def spec_GoodQueue_L1 (a0 : QueueT) (g28 : spec_GoodQueue_G1) : Option (spec_GoodQueue_G1 ⊕ (Unit ⊕ Unit)) :=
  (if (decide (g28.t44 < ((a0.Sent.length : Nat) : Int))) = true then
    (guardO (0 ≤ g28.t44 ∧ g28.t44 < (a0.Sent.length : Int)) <|
    (((if (decide (((nth a0.Sent g28.t44.toNat).size : Int) > 12)) = true then
        some (⟨true⟩ : spec_GoodQueue_J14006)
      else
        (if (decide (g28.t44 < ((a0.Got.length : Nat) : Int))) = true then
          (guardO (0 ≤ g28.t44 ∧ g28.t44 < (a0.Got.length : Int)) <|
          some (⟨(!((nth a0.Got g28.t44.toNat).toList == (nth a0.Sent g28.t44.toNat).toList))⟩ : spec_GoodQueue_J14006))
        else
          some (⟨false⟩ : spec_GoodQueue_J14006))) : Option spec_GoodQueue_J14006).bind fun p30 =>
    (if p30.t67 = true then
      some (.inr (.inl ()))
    else
      some (.inl ⟨(wI (g28.t44 + 1))⟩))))
  else
    some (.inr (.inr ())))
structure spec_GoodQueue_G2 where
  t72 : Int
structure spec_GoodQueue_J14013 where
  t89 : Bool
structure spec_GoodQueue_J14015 where
  t118 : Bool
noncomputable def spec_GoodQueue_L2 (a0 : QueueT) (g34 : spec_GoodQueue_G2) : Option (spec_GoodQueue_G2 ⊕ (Unit ⊕ Unit)) :=
  (if (decide (g34.t72 < ((a0.Line.length : Nat) : Int))) = true then
    (guardO (0 ≤ g34.t72 ∧ g34.t72 < (a0.Line.length : Int)) <|
    (if (nth a0.Line g34.t72.toNat).Ack = true then
      ((((spec_l1In ((nth a0.Line g34.t72.toNat).No) 0 ((a0.Got.length : Nat) : Int)).bind fun c39 =>
        (if (!c39) = true then
          some (⟨true⟩ : spec_GoodQueue_J14013)
        else
          some (⟨(!(((nth a0.Line g34.t72.toNat).Text).toList == ByteArray.empty.toList))⟩ : spec_GoodQueue_J14013))) : Option spec_GoodQueue_J14013).bind fun p40 =>
      (if p40.t89 = true then
        some (.inr (.inl ()))
      else
        some (.inl ⟨(wI (g34.t72 + 1))⟩)))
    else
      ((((spec_l1In ((nth a0.Line g34.t72.toNat).No) 0 (wI (((a0.Sent.length : Nat) : Int) - 1))).bind fun c41 =>
        (if (!c41) = true then
          some (⟨true⟩ : spec_GoodQueue_J14015)
        else
          (if (decide (((nth a0.Line g34.t72.toNat).No) ≥ (wI (a0.Base + a0.Window)))) = true then
            some (⟨true⟩ : spec_GoodQueue_J14015)
          else
            (guardO (0 ≤ ((nth a0.Line g34.t72.toNat).No) ∧ ((nth a0.Line g34.t72.toNat).No) < (a0.Sent.length : Int)) <|
            some (⟨(!(((nth a0.Line g34.t72.toNat).Text).toList == (nth a0.Sent (((nth a0.Line g34.t72.toNat).No).toNat)).toList))⟩ : spec_GoodQueue_J14015))))) : Option spec_GoodQueue_J14015).bind fun p42 =>
      (if p42.t118 = true then
        some (.inr (.inl ()))
      else
        some (.inl ⟨(wI (g34.t72 + 1))⟩)))))
  else
    some (.inr (.inr ())))
noncomputable def spec_GoodQueue (a0 : QueueT) : Option Bool :=
  ((((spec_l1In a0.Window 1 10).bind fun c25 =>
    (if (!c25) = true then
      some (⟨true⟩ : spec_GoodQueue_J4001)
    else
      (if (decide (((a0.Sent.length : Nat) : Int) > 40)) = true then
        some (⟨true⟩ : spec_GoodQueue_J4001)
      else
        (if (decide (((a0.Got.length : Nat) : Int) > ((a0.Sent.length : Nat) : Int))) = true then
          some (⟨true⟩ : spec_GoodQueue_J4001)
        else
          ((spec_l1In a0.Base 0 ((a0.Got.length : Nat) : Int)).bind fun c26 =>
          (if (!c26) = true then
            some (⟨true⟩ : spec_GoodQueue_J4001)
          else
            some (⟨(decide (((a0.Line.length : Nat) : Int) > 40))⟩ : spec_GoodQueue_J4001))))))) : Option spec_GoodQueue_J4001).bind fun p27 =>
  (if p27.t40 = true then
    some false
  else
    ((loopF (spec_GoodQueue_L1 a0) ⟨0⟩).bind fun y31 =>
    match y31 with
    | .inl p32 =>
      some false
    | .inr p33 =>
      ((loopF (spec_GoodQueue_L2 a0) ⟨0⟩).bind fun y43 =>
      match y43 with
      | .inl p44 =>
        some false
      | .inr p45 =>
        some true))))
noncomputable def impl_in (a0 : Int) (a1 : Int) (a2 : Int) : Option Bool :=
  (if (decide (a0 ≥ a1)) = true then
    some (decide (a0 ≤ a2))
  else
    some false)
noncomputable def impl_GoodQueue_c1 (a0 : ByteArray) : Option Bool :=
  some (decide ((a0.size : Int) > 12))
structure slices_IndexFunc_string_impl_GoodQueue_c1_G1 where
  t8 : Int
structure slices_IndexFunc_string_impl_GoodQueue_c1_P1_0 where
  t4 : Int
noncomputable def slices_IndexFunc_string_impl_GoodQueue_c1_L1 (a0 : (List ByteArray)) (g61 : slices_IndexFunc_string_impl_GoodQueue_c1_G1) : Option (slices_IndexFunc_string_impl_GoodQueue_c1_G1 ⊕ (slices_IndexFunc_string_impl_GoodQueue_c1_P1_0 ⊕ Unit)) :=
  (if (decide (g61.t8 < ((a0.length : Nat) : Int))) = true then
    (guardO (0 ≤ g61.t8 ∧ g61.t8 < (a0.length : Int)) <|
    ((impl_GoodQueue_c1 (nth a0 g61.t8.toNat)).bind fun c63 =>
    (if c63 = true then
      some (.inr (.inl (⟨g61.t8⟩)))
    else
      some (.inl ⟨(wI (g61.t8 + 1))⟩))))
  else
    some (.inr (.inr ())))
noncomputable def slices_IndexFunc_string_impl_GoodQueue_c1 (a0 : (List ByteArray)) : Option Int :=
  ((loopF (slices_IndexFunc_string_impl_GoodQueue_c1_L1 a0) ⟨0⟩).bind fun y64 =>
  match y64 with
  | .inl p65 =>
    some p65.t4
  | .inr p66 =>
    some (-1))
noncomputable def slices_ContainsFunc_string_impl_GoodQueue_c1 (a0 : (List ByteArray)) : Option Bool :=
  ((slices_IndexFunc_string_impl_GoodQueue_c1 a0).bind fun c67 =>
  some (decide (c67 ≥ 0)))
structure slices_Equal_string_G1 where
  t13 : Int
noncomputable def slices_Equal_string_L1 (a0 : (List ByteArray)) (a1 : (List ByteArray)) (g70 : slices_Equal_string_G1) : Option (slices_Equal_string_G1 ⊕ (Unit ⊕ Unit)) :=
  (if (decide (g70.t13 < ((a0.length : Nat) : Int))) = true then
    (guardO (0 ≤ g70.t13 ∧ g70.t13 < (a0.length : Int)) <|
    (guardO (0 ≤ g70.t13 ∧ g70.t13 < (a1.length : Int)) <|
    (if (!((nth a0 g70.t13.toNat).toList == (nth a1 g70.t13.toNat).toList)) = true then
      some (.inr (.inl ()))
    else
      some (.inl ⟨(wI (g70.t13 + 1))⟩))))
  else
    some (.inr (.inr ())))
noncomputable def slices_Equal_string (a0 : (List ByteArray)) (a1 : (List ByteArray)) : Option Bool :=
  (if (((a0.length : Nat) : Int) != ((a1.length : Nat) : Int)) = true then
    some false
  else
    ((loopF (slices_Equal_string_L1 a0 a1) ⟨0⟩).bind fun y71 =>
    match y71 with
    | .inl p72 =>
      some false
    | .inr p73 =>
      some true))
noncomputable def impl_Queue_packetOk_r (a0 : QueueT) (a1 : PacketT) : Option Bool :=
  (if a1.Ack = true then
    ((impl_in a1.No 0 ((a0.Got.length : Nat) : Int)).bind fun c78 =>
    (if c78 = true then
      some (a1.Text.toList == ByteArray.empty.toList)
    else
      some false))
  else
    ((impl_in a1.No 0 (wI ((min ((a0.Sent.length : Nat) : Int) (wI (a0.Base + a0.Window))) - 1))).bind fun c79 =>
    (if c79 = true then
      (guardO (0 ≤ a1.No ∧ a1.No < (a0.Sent.length : Int)) <|
      some (a1.Text.toList == (nth a0.Sent a1.No.toNat).toList))
    else
      some false)))
noncomputable def impl_GoodQueue_c2_r (a0 : PacketT) (a1 : QueueT) : Option Bool :=
  ((impl_Queue_packetOk_r a1 a0).bind fun c80 =>
  some (!c80))
structure slices_IndexFunc_impl_Packet_impl_GoodQueue_c2r_G1 where
  t8 : Int
structure slices_IndexFunc_impl_Packet_impl_GoodQueue_c2r_P1_0 where
  t4 : Int
noncomputable def slices_IndexFunc_impl_Packet_impl_GoodQueue_c2r_L1 (a0 : (List PacketT)) (a1 : QueueT) (g77 : slices_IndexFunc_impl_Packet_impl_GoodQueue_c2r_G1) : Option (slices_IndexFunc_impl_Packet_impl_GoodQueue_c2r_G1 ⊕ (slices_IndexFunc_impl_Packet_impl_GoodQueue_c2r_P1_0 ⊕ Unit)) :=
  (if (decide (g77.t8 < ((a0.length : Nat) : Int))) = true then
    (guardO (0 ≤ g77.t8 ∧ g77.t8 < (a0.length : Int)) <|
    ((impl_GoodQueue_c2_r (nth a0 g77.t8.toNat) a1).bind fun c82 =>
    (if c82 = true then
      some (.inr (.inl (⟨g77.t8⟩)))
    else
      some (.inl ⟨(wI (g77.t8 + 1))⟩))))
  else
    some (.inr (.inr ())))
noncomputable def slices_IndexFunc_impl_Packet_impl_GoodQueue_c2r (a0 : (List PacketT)) (a1 : QueueT) : Option Int :=
  ((loopF (slices_IndexFunc_impl_Packet_impl_GoodQueue_c2r_L1 a0 a1) ⟨0⟩).bind fun y83 =>
  match y83 with
  | .inl p84 =>
    some p84.t4
  | .inr p85 =>
    some (-1))
noncomputable def slices_ContainsFunc_impl_Packet_impl_GoodQueue_c2r (a0 : (List PacketT)) (a1 : QueueT) : Option Bool :=
  ((slices_IndexFunc_impl_Packet_impl_GoodQueue_c2r a0 a1).bind fun c86 =>
  some (decide (c86 ≥ 0)))
structure impl_GoodQueue_J4001 where
  t17 : Bool
structure impl_GoodQueue_J4003 where
  t51 : Bool
noncomputable def impl_GoodQueue (a0 : QueueT) : Option Bool :=
  ((((impl_in a0.Window 1 10).bind fun c60 =>
    (if (!c60) = true then
      some (⟨true⟩ : impl_GoodQueue_J4001)
    else
      (if (decide (((a0.Sent.length : Nat) : Int) > 40)) = true then
        some (⟨true⟩ : impl_GoodQueue_J4001)
      else
        ((slices_ContainsFunc_string_impl_GoodQueue_c1 a0.Sent).bind fun c68 =>
        some (⟨c68⟩ : impl_GoodQueue_J4001))))) : Option impl_GoodQueue_J4001).bind fun p69 =>
  (if p69.t17 = true then
    some false
  else
    (((if (decide (((a0.Got.length : Nat) : Int) > ((a0.Sent.length : Nat) : Int))) = true then
        some (⟨true⟩ : impl_GoodQueue_J4003)
      else
        (guardO (0 ≤ ((a0.Got.length : Nat) : Int) ∧ ((a0.Got.length : Nat) : Int) ≤ (a0.Sent.length : Int)) <|
        ((slices_Equal_string a0.Got (a0.Sent.take a0.Got.length)).bind fun c74 =>
        (if (!c74) = true then
          some (⟨true⟩ : impl_GoodQueue_J4003)
        else
          ((impl_in a0.Base 0 ((a0.Got.length : Nat) : Int)).bind fun c75 =>
          (if (!c75) = true then
            some (⟨true⟩ : impl_GoodQueue_J4003)
          else
            some (⟨(decide (((a0.Line.length : Nat) : Int) > 40))⟩ : impl_GoodQueue_J4003))))))) : Option impl_GoodQueue_J4003).bind fun p76 =>
    (if p76.t51 = true then
      some false
    else
      ((slices_ContainsFunc_impl_Packet_impl_GoodQueue_c2r a0.Line a0).bind fun c87 =>
      some (!c87))))))
structure laws_eqStringS_G1 where
  t5 : Int
noncomputable def laws_eqStringS_L1 (a0 : (List ByteArray)) (a1 : (List ByteArray)) (g90 : laws_eqStringS_G1) : Option (laws_eqStringS_G1 ⊕ (Unit ⊕ Unit)) :=
  (if (decide (g90.t5 < ((a0.length : Nat) : Int))) = true then
    (guardO (0 ≤ g90.t5 ∧ g90.t5 < (a0.length : Int)) <|
    (guardO (0 ≤ g90.t5 ∧ g90.t5 < (a1.length : Int)) <|
    (if (!((nth a0 g90.t5.toNat).toList == (nth a1 g90.t5.toNat).toList)) = true then
      some (.inr (.inl ()))
    else
      some (.inl ⟨(wI (g90.t5 + 1))⟩))))
  else
    some (.inr (.inr ())))
noncomputable def laws_eqStringS (a0 : (List ByteArray)) (a1 : (List ByteArray)) : Option Bool :=
  (if (((a0.length : Nat) : Int) != ((a1.length : Nat) : Int)) = true then
    some false
  else
    ((loopF (laws_eqStringS_L1 a0 a1) ⟨0⟩).bind fun y91 =>
    match y91 with
    | .inl p92 =>
      some false
    | .inr p93 =>
      some true))
noncomputable def laws_eqPacket (a0 : PacketT) (a1 : PacketT) : Option Bool :=
  (if (!(a0.Ack == a1.Ack)) = true then
    some false
  else
    (if (a0.No != a1.No) = true then
      some false
    else
      (if (!(a0.Text.toList == a1.Text.toList)) = true then
        some false
      else
        some true)))
structure laws_eqPacketS_G1 where
  t5 : Int
noncomputable def laws_eqPacketS_L1 (a0 : (List PacketT)) (a1 : (List PacketT)) (g96 : laws_eqPacketS_G1) : Option (laws_eqPacketS_G1 ⊕ (Unit ⊕ Unit)) :=
  (if (decide (g96.t5 < ((a0.length : Nat) : Int))) = true then
    (guardO (0 ≤ g96.t5 ∧ g96.t5 < (a0.length : Int)) <|
    (guardO (0 ≤ g96.t5 ∧ g96.t5 < (a1.length : Int)) <|
    ((laws_eqPacket (nth a0 g96.t5.toNat) (nth a1 g96.t5.toNat)).bind fun c98 =>
    (if (!c98) = true then
      some (.inr (.inl ()))
    else
      some (.inl ⟨(wI (g96.t5 + 1))⟩)))))
  else
    some (.inr (.inr ())))
noncomputable def laws_eqPacketS (a0 : (List PacketT)) (a1 : (List PacketT)) : Option Bool :=
  (if (((a0.length : Nat) : Int) != ((a1.length : Nat) : Int)) = true then
    some false
  else
    ((loopF (laws_eqPacketS_L1 a0 a1) ⟨0⟩).bind fun y99 =>
    match y99 with
    | .inl p100 =>
      some false
    | .inr p101 =>
      some true))
noncomputable def laws_eqQueue (a0 : QueueT) (a1 : QueueT) : Option Bool :=
  (if (a0.Window != a1.Window) = true then
    some false
  else
    ((laws_eqStringS a0.Sent a1.Sent).bind fun c94 =>
    (if (!c94) = true then
      some false
    else
      (if (a0.Base != a1.Base) = true then
        some false
      else
        ((laws_eqStringS a0.Got a1.Got).bind fun c95 =>
        (if (!c95) = true then
          some false
        else
          ((laws_eqPacketS a0.Line a1.Line).bind fun c102 =>
          (if (!c102) = true then
            some false
          else
            some true))))))))
noncomputable def laws_FnExactGoodQueue (a0 : QueueT) : Option Bool :=
  ((laws_szQueue a0 1048576).bind fun c14 =>
  (if (decide (c14 < 0)) = true then
    some true
  else
    ((laws_toQueue a0).bind fun c24 =>
    ((spec_GoodQueue c24).bind fun c58 =>
    ((laws_toQueue a0).bind fun c59 =>
    ((impl_GoodQueue c59).bind fun c88 =>
    (if (!(c88 == c58)) = true then
      some false
    else
      ((laws_toQueue a0).bind fun c89 =>
      ((laws_eqQueue c59 c89).bind fun c103 =>
      (if (!c103) = true then
        some false
      else
        some true))))))))))
noncomputable def spec_WaitingIn (a0 : QueueT) : Option (Int × Bool) :=
  ((spec_GoodQueue a0).bind fun c106 =>
  (if (!c106) = true then
    some (0, false)
  else
    some ((wI (((a0.Sent.length : Nat) : Int) - ((a0.Got.length : Nat) : Int))), true)))
noncomputable def impl_WaitingIn (a0 : QueueT) : Option (Int × Bool) :=
  ((impl_GoodQueue a0).bind fun c109 =>
  (if (!c109) = true then
    some (0, false)
  else
    some ((wI (((a0.Sent.length : Nat) : Int) - ((a0.Got.length : Nat) : Int))), true)))
structure laws_FnExactWaitingIn_J4008 where
  t34 : Bool
noncomputable def laws_FnExactWaitingIn (a0 : QueueT) : Option Bool :=
  ((laws_szQueue a0 1048576).bind fun c104 =>
  (if (decide (c104 < 0)) = true then
    some true
  else
    ((laws_toQueue a0).bind fun c105 =>
    ((spec_WaitingIn c105).bind fun c107 =>
    ((laws_toQueue a0).bind fun c108 =>
    ((impl_WaitingIn c108).bind fun c110 =>
    (((if (c110.1 != c107.1) = true then
        some (⟨true⟩ : laws_FnExactWaitingIn_J4008)
      else
        some (⟨(!(c110.2 == c107.2))⟩ : laws_FnExactWaitingIn_J4008)) : Option laws_FnExactWaitingIn_J4008).bind fun p111 =>
    (if p111.t34 = true then
      some false
    else
      ((laws_toQueue a0).bind fun c112 =>
      ((laws_eqQueue c108 c112).bind fun c113 =>
      (if (!c113) = true then
        some false
      else
        some true)))))))))))
structure l1CurT where
  code : (List Int)
  at_ : Int
  seed : Int
  deriving DecidableEq, Inhabited
structure spec_l1Cur_next_o_J2013 where
  t3 : Int
noncomputable def spec_l1Cur_next_o (a0 : l1CurT) : Option (Int × l1CurT) :=
  (((if (decide (a0.at_ < ((a0.code.length : Nat) : Int))) = true then
      (guardO (0 ≤ a0.at_ ∧ a0.at_ < (a0.code.length : Int)) <|
      some (⟨(wI (nth a0.code a0.at_.toNat))⟩ : spec_l1Cur_next_o_J2013))
    else
      some (⟨0⟩ : spec_l1Cur_next_o_J2013)) : Option spec_l1Cur_next_o_J2013).bind fun p115 =>
  (if (decide ((wI (a0.at_ + 1)) ≤ ((a0.code.length : Nat) : Int))) = true then
    some (p115.t3, (⟨a0.code, (wI (a0.at_ + 1)), (wU ((wU ((wU (a0.seed * 6364136223846793005)) + (wU p115.t3))) + 1442695040888963407))⟩ : l1CurT))
  else
    some ((wI (wU (bvAnd 64 (shR 64 (wU ((wU ((wU (a0.seed * 6364136223846793005)) + (wU p115.t3))) + 1442695040888963407)) 40) 255))), (⟨a0.code, (wI (a0.at_ + 1)), (wU ((wU ((wU (a0.seed * 6364136223846793005)) + (wU p115.t3))) + 1442695040888963407))⟩ : l1CurT))))
noncomputable def spec_l1Cur_pick_o (a0 : l1CurT) (a1 : Int) : Option (Int × l1CurT) :=
  (if (decide (a1 ≤ 1)) = true then
    some (0, a0)
  else
    ((spec_l1Cur_next_o a0).bind fun c116 =>
    (if (decide (a1 > 200)) = true then
      ((spec_l1Cur_next_o c116.2).bind fun c117 =>
      (guardO (a1 ≠ 0) <|
      some (((wI ((wI (c116.1 * 256)) + c117.1)).tmod a1), c117.2)))
    else
      (guardO (a1 ≠ 0) <|
      some ((c116.1.tmod a1), c116.2)))))
noncomputable def spec_l1Cur_one_o (a0 : l1CurT) (a1 : Int) : Option (Bool × l1CurT) :=
  ((spec_l1Cur_pick_o a0 a1).bind fun c122 =>
  some ((c122.1 == 0), c122.2))
structure CallT where
  Now : Int
  Fine : Bool
  deriving DecidableEq, Inhabited
structure spec_l1Cur_calls_o_J2011 where
  t5 : Int
  b0_0 : (List Int)
  b0_1 : Int
  b0_2 : Int
structure spec_l1Cur_calls_o_G1 where
  t4 : Int
  t5 : Int
  b0_0 : (List Int)
  b0_1 : Int
  b0_2 : Int
  c1 : (List CallT)
structure spec_l1Cur_calls_o_P1_0 where
  b0_0 : (List Int)
  b0_1 : Int
  b0_2 : Int
  c1 : (List CallT)
noncomputable def spec_l1Cur_calls_o_L1 (g126 : spec_l1Cur_calls_o_G1) : Option (spec_l1Cur_calls_o_G1 ⊕ spec_l1Cur_calls_o_P1_0) :=
  (if (decide (g126.t5 > 0)) = true then
    ((spec_l1Cur_one_o (⟨g126.b0_0, g126.b0_1, g126.b0_2⟩ : l1CurT) 3).bind fun c129 =>
    (guardO ((g126.c1.length + 1) * 16 ≤ 140737488355328) <|
    ((spec_l1Cur_pick_o c129.2 8).bind fun c130 =>
    some (.inl ⟨(wI (g126.t4 + c130.1)), (wI (g126.t5 - 1)), c130.2.code, c130.2.at_, c130.2.seed, (g126.c1 ++ ([(⟨g126.t4, c129.1⟩ : CallT)]))⟩))))
  else
    some (.inr (⟨g126.b0_0, g126.b0_1, g126.b0_2, g126.c1⟩)))
structure spec_l1Cur_calls_o_J4010 where
  t36 : Bool
  b0_0 : (List Int)
  b0_1 : Int
  b0_2 : Int
noncomputable def spec_l1Cur_calls_o (a0 : l1CurT) : Option ((List CallT) × l1CurT) :=
  ((spec_l1Cur_pick_o a0 5).bind fun c120 =>
  ((spec_l1Cur_pick_o c120.2 20).bind fun c121 =>
  ((((spec_l1Cur_one_o c121.2 20).bind fun c123 =>
    (if c123.1 = true then
      ((spec_l1Cur_pick_o c123.2 2).bind fun c124 =>
      some (⟨(wI (120 + c124.1)), c124.2.code, c124.2.at_, c124.2.seed⟩ : spec_l1Cur_calls_o_J2011))
    else
      some (⟨c121.1, c123.2.code, c123.2.at_, c123.2.seed⟩ : spec_l1Cur_calls_o_J2011))) : Option spec_l1Cur_calls_o_J2011).bind fun p125 =>
  ((loopF (spec_l1Cur_calls_o_L1) ⟨c120.1, p125.t5, p125.b0_0, p125.b0_1, p125.b0_2, []⟩).bind fun y131 =>
  (((if (decide (((y131.c1.length : Nat) : Int) > 1)) = true then
      ((spec_l1Cur_one_o (⟨y131.b0_0, y131.b0_1, y131.b0_2⟩ : l1CurT) 30).bind fun c132 =>
      some (⟨c132.1, c132.2.code, c132.2.at_, c132.2.seed⟩ : spec_l1Cur_calls_o_J4010))
    else
      some (⟨false, y131.b0_0, y131.b0_1, y131.b0_2⟩ : spec_l1Cur_calls_o_J4010)) : Option spec_l1Cur_calls_o_J4010).bind fun p133 =>
  (if p133.t36 = true then
    (guardO (1 < ((y131.c1.length : Nat) : Int)) <|
    (guardO (0 < ((y131.c1.length : Nat) : Int)) <|
    some ((y131.c1.set 0 (⟨(wI (((nth y131.c1 1).Now) + 1)), (nth y131.c1 0).Fine⟩ : CallT)), (⟨p133.b0_0, p133.b0_1, p133.b0_2⟩ : l1CurT))))
  else
    some (y131.c1, (⟨p133.b0_0, p133.b0_1, p133.b0_2⟩ : l1CurT))))))))
noncomputable def spec_DrawPlayBreaker (a0 : (List Int)) : Option (Int × Int × (List CallT)) :=
  ((spec_l1Cur_pick_o (⟨a0, 0, 0⟩ : l1CurT) 4).bind fun c118 =>
  ((spec_l1Cur_pick_o c118.2 30).bind fun c119 =>
  ((spec_l1Cur_calls_o c119.2).bind fun c136 =>
  some ((wI (1 + c118.1)), c119.1, c136.1))))
structure BreakerT where
  Limit : Int
  Cool : Int
  State : Int
  Fails : Int
  Opened : Int
  deriving DecidableEq, Inhabited
noncomputable def impl_isTime (a0 : Int) : Option Bool :=
  ((impl_in a0 0 1000000).bind fun c142 =>
  some c142)
structure impl_GoodBreaker_J4001 where
  t32 : Bool
noncomputable def impl_GoodBreaker (a0 : BreakerT) : Option Bool :=
  ((((impl_in a0.Limit 1 20).bind fun c138 =>
    (if (!c138) = true then
      some (⟨true⟩ : impl_GoodBreaker_J4001)
    else
      ((impl_in a0.Cool 1 10000).bind fun c139 =>
      (if (!c139) = true then
        some (⟨true⟩ : impl_GoodBreaker_J4001)
      else
        ((impl_in a0.State 0 2).bind fun c140 =>
        (if (!c140) = true then
          some (⟨true⟩ : impl_GoodBreaker_J4001)
        else
          ((impl_in a0.Fails 0 a0.Limit).bind fun c141 =>
          (if (!c141) = true then
            some (⟨true⟩ : impl_GoodBreaker_J4001)
          else
            ((impl_isTime a0.Opened).bind fun c143 =>
            some (⟨(!c143)⟩ : impl_GoodBreaker_J4001)))))))))) : Option impl_GoodBreaker_J4001).bind fun p144 =>
  (if p144.t32 = true then
    some false
  else
    (if (a0.State == 0) = true then
      (if (decide (a0.Fails < a0.Limit)) = true then
        some (a0.Opened == 0)
      else
        some false)
    else
      some (a0.Fails == a0.Limit))))
noncomputable def impl_NewBreaker (a0 : Int) (a1 : Int) : Option (BreakerT × Bool) :=
  ((impl_GoodBreaker (⟨a0, a1, 0, 0, 0⟩ : BreakerT)).bind fun c145 =>
  (if (!c145) = true then
    some ((⟨0, 0, 0, 0, 0⟩ : BreakerT), false)
  else
    some ((⟨a0, a1, 0, 0, 0⟩ : BreakerT), true)))
noncomputable def impl_Breaker_allows_r (a0 : BreakerT) (a1 : Int) : Option Bool :=
  (if (a0.State != 1) = true then
    some true
  else
    some (decide (a1 ≥ (wI (a0.Opened + a0.Cool)))))
noncomputable def impl_Breaker_call_o (a0 : BreakerT) (a1 : CallT) : Option (Bool × BreakerT) :=
  ((impl_Breaker_allows_r a0 a1.Now).bind fun c152 =>
  (if (!c152) = true then
    some (false, a0)
  else
    (if a1.Fine = true then
      some (true, (⟨a0.Limit, a0.Cool, 0, 0, 0⟩ : BreakerT))
    else
      (if (a0.State != 0) = true then
        some (true, (⟨a0.Limit, a0.Cool, 1, a0.Fails, a1.Now⟩ : BreakerT))
      else
        (if ((wI (a0.Fails + 1)) == a0.Limit) = true then
          some (true, (⟨a0.Limit, a0.Cool, 1, (wI (a0.Fails + 1)), a1.Now⟩ : BreakerT))
        else
          some (true, (⟨a0.Limit, a0.Cool, a0.State, (wI (a0.Fails + 1)), a0.Opened⟩ : BreakerT)))))))
structure impl_PlayBreaker_J4002 where
  t26 : Bool
structure impl_PlayBreaker_G1 where
  t31 : Int
  b1_0 : Int
  b1_1 : Int
  b1_2 : Int
  b1_3 : Int
  b1_4 : Int
  c2 : (List Bool)
structure impl_PlayBreaker_P1_1 where
  b1_0 : Int
  b1_1 : Int
  b1_2 : Int
  b1_3 : Int
  b1_4 : Int
  c2 : (List Bool)
structure impl_PlayBreaker_J14008 where
  t54 : Bool
noncomputable def impl_PlayBreaker_L1 (a2 : (List CallT)) (g148 : impl_PlayBreaker_G1) : Option (impl_PlayBreaker_G1 ⊕ (Unit ⊕ impl_PlayBreaker_P1_1)) :=
  (if (decide (g148.t31 < ((a2.length : Nat) : Int))) = true then
    (guardO (0 ≤ g148.t31 ∧ g148.t31 < (a2.length : Int)) <|
    ((((impl_isTime ((nth a2 g148.t31.toNat).Now)).bind fun c154 =>
      (if (!c154) = true then
        some (⟨true⟩ : impl_PlayBreaker_J14008)
      else
        (if (decide (g148.t31 > 0)) = true then
          (guardO (0 ≤ (wI (g148.t31 - 1)) ∧ (wI (g148.t31 - 1)) < (a2.length : Int)) <|
          some (⟨(decide (((nth a2 g148.t31.toNat).Now) < ((nth a2 ((wI (g148.t31 - 1)).toNat)).Now)))⟩ : impl_PlayBreaker_J14008))
        else
          some (⟨false⟩ : impl_PlayBreaker_J14008)))) : Option impl_PlayBreaker_J14008).bind fun p155 =>
    (if p155.t54 = true then
      some (.inr (.inl ()))
    else
      ((impl_Breaker_call_o (⟨g148.b1_0, g148.b1_1, g148.b1_2, g148.b1_3, g148.b1_4⟩ : BreakerT) (nth a2 g148.t31.toNat)).bind fun c156 =>
      (guardO ((g148.c2.length + 1) * 1 ≤ 140737488355328) <|
      some (.inl ⟨(wI (g148.t31 + 1)), c156.2.Limit, c156.2.Cool, c156.2.State, c156.2.Fails, c156.2.Opened, (g148.c2 ++ ([c156.1]))⟩))))))
  else
    some (.inr (.inr (⟨g148.b1_0, g148.b1_1, g148.b1_2, g148.b1_3, g148.b1_4, g148.c2⟩))))
noncomputable def impl_PlayBreaker (a0 : Int) (a1 : Int) (a2 : (List CallT)) : Option (BreakerT × (List Bool) × Bool) :=
  ((impl_NewBreaker a0 a1).bind fun c146 =>
  (((if (!c146.2) = true then
      some (⟨true⟩ : impl_PlayBreaker_J4002)
    else
      some (⟨(decide (((a2.length : Nat) : Int) > 120))⟩ : impl_PlayBreaker_J4002)) : Option impl_PlayBreaker_J4002).bind fun p147 =>
  (if p147.t26 = true then
    some ((⟨0, 0, 0, 0, 0⟩ : BreakerT), [], false)
  else
    ((loopF (impl_PlayBreaker_L1 a2) ⟨0, c146.1.Limit, c146.1.Cool, c146.1.State, c146.1.Fails, c146.1.Opened, []⟩).bind fun y157 =>
    match y157 with
    | .inl p158 =>
      some ((⟨0, 0, 0, 0, 0⟩ : BreakerT), [], false)
    | .inr p159 =>
      some ((⟨p159.b1_0, p159.b1_1, p159.b1_2, p159.b1_3, p159.b1_4⟩ : BreakerT), p159.c2, true)))))
structure spec_NewBreaker_J4001 where
  t13 : Bool
noncomputable def spec_NewBreaker (a0 : Int) (a1 : Int) : Option (BreakerT × Bool) :=
  ((((spec_l1In a0 1 20).bind fun c161 =>
    (if (!c161) = true then
      some (⟨true⟩ : spec_NewBreaker_J4001)
    else
      ((spec_l1In a1 1 10000).bind fun c162 =>
      some (⟨(!c162)⟩ : spec_NewBreaker_J4001)))) : Option spec_NewBreaker_J4001).bind fun p163 =>
  (if p163.t13 = true then
    some ((⟨0, 0, 0, 0, 0⟩ : BreakerT), false)
  else
    some ((⟨a0, a1, 0, 0, 0⟩ : BreakerT), true)))
structure spec_l10Call_J4001 where
  t19 : Bool
noncomputable def spec_l10Call (a0 : BreakerT) (a1 : CallT) : Option (BreakerT × Bool) :=
  (((if (a0.State == 1) = true then
      some (⟨(decide (a1.Now < (wI (a0.Opened + a0.Cool))))⟩ : spec_l10Call_J4001)
    else
      some (⟨false⟩ : spec_l10Call_J4001)) : Option spec_l10Call_J4001).bind fun p169 =>
  (if p169.t19 = true then
    some (a0, false)
  else
    (if a1.Fine = true then
      some ((⟨a0.Limit, a0.Cool, 0, 0, 0⟩ : BreakerT), true)
    else
      (if (a0.State != 0) = true then
        some ((⟨a0.Limit, a0.Cool, 1, a0.Fails, a1.Now⟩ : BreakerT), true)
      else
        (if ((wI (a0.Fails + 1)) == a0.Limit) = true then
          some ((⟨a0.Limit, a0.Cool, 1, (wI (a0.Fails + 1)), a1.Now⟩ : BreakerT), true)
        else
          some ((⟨a0.Limit, a0.Cool, a0.State, (wI (a0.Fails + 1)), a0.Opened⟩ : BreakerT), true))))))
structure spec_PlayBreaker_J4002 where
  t28 : Bool
structure spec_PlayBreaker_G1 where
  t32 : Int
  b1_0 : Int
  b1_1 : Int
  b1_2 : Int
  b1_3 : Int
  b1_4 : Int
  c2 : (List Bool)
structure spec_PlayBreaker_P1_1 where
  b1_0 : Int
  b1_1 : Int
  b1_2 : Int
  b1_3 : Int
  b1_4 : Int
  c2 : (List Bool)
structure spec_PlayBreaker_J14008 where
  t55 : Bool
noncomputable def spec_PlayBreaker_L1 (a2 : (List CallT)) (g166 : spec_PlayBreaker_G1) : Option (spec_PlayBreaker_G1 ⊕ (Unit ⊕ spec_PlayBreaker_P1_1)) :=
  (if (decide (g166.t32 < ((a2.length : Nat) : Int))) = true then
    (guardO (0 ≤ g166.t32 ∧ g166.t32 < (a2.length : Int)) <|
    ((((spec_l1In ((nth a2 g166.t32.toNat).Now) 0 1000000).bind fun c171 =>
      (if (!c171) = true then
        some (⟨true⟩ : spec_PlayBreaker_J14008)
      else
        (if (decide (g166.t32 > 0)) = true then
          (guardO (0 ≤ (wI (g166.t32 - 1)) ∧ (wI (g166.t32 - 1)) < (a2.length : Int)) <|
          some (⟨(decide (((nth a2 ((wI (g166.t32 - 1)).toNat)).Now) > ((nth a2 g166.t32.toNat).Now)))⟩ : spec_PlayBreaker_J14008))
        else
          some (⟨false⟩ : spec_PlayBreaker_J14008)))) : Option spec_PlayBreaker_J14008).bind fun p172 =>
    (if p172.t55 = true then
      some (.inr (.inl ()))
    else
      ((spec_l10Call (⟨g166.b1_0, g166.b1_1, g166.b1_2, g166.b1_3, g166.b1_4⟩ : BreakerT) (nth a2 g166.t32.toNat)).bind fun c173 =>
      (guardO ((g166.c2.length + 1) * 1 ≤ 140737488355328) <|
      some (.inl ⟨(wI (g166.t32 + 1)), c173.1.Limit, c173.1.Cool, c173.1.State, c173.1.Fails, c173.1.Opened, (g166.c2 ++ ([c173.2]))⟩))))))
  else
    some (.inr (.inr (⟨g166.b1_0, g166.b1_1, g166.b1_2, g166.b1_3, g166.b1_4, g166.c2⟩))))
noncomputable def spec_PlayBreaker (a0 : Int) (a1 : Int) (a2 : (List CallT)) : Option (BreakerT × (List Bool) × Bool) :=
  ((spec_NewBreaker a0 a1).bind fun c164 =>
  (((if (!c164.2) = true then
      some (⟨true⟩ : spec_PlayBreaker_J4002)
    else
      some (⟨(decide (((a2.length : Nat) : Int) > 120))⟩ : spec_PlayBreaker_J4002)) : Option spec_PlayBreaker_J4002).bind fun p165 =>
  (if p165.t28 = true then
    some ((⟨0, 0, 0, 0, 0⟩ : BreakerT), [], false)
  else
    ((loopF (spec_PlayBreaker_L1 a2) ⟨0, c164.1.Limit, c164.1.Cool, c164.1.State, c164.1.Fails, c164.1.Opened, []⟩).bind fun y174 =>
    match y174 with
    | .inl p175 =>
      some ((⟨0, 0, 0, 0, 0⟩ : BreakerT), [], false)
    | .inr p176 =>
      some ((⟨p176.b1_0, p176.b1_1, p176.b1_2, p176.b1_3, p176.b1_4⟩ : BreakerT), p176.c2, true)))))
structure laws_sameBools_G1 where
  t13 : Int
noncomputable def laws_sameBools_L1 (a0 : (List Bool)) (a1 : (List Bool)) (g178 : laws_sameBools_G1) : Option (laws_sameBools_G1 ⊕ (Unit ⊕ Unit)) :=
  (if (decide (g178.t13 < ((a0.length : Nat) : Int))) = true then
    (guardO (0 ≤ g178.t13 ∧ g178.t13 < (a0.length : Int)) <|
    (guardO (0 ≤ g178.t13 ∧ g178.t13 < (a1.length : Int)) <|
    (if (!((nth a0 g178.t13.toNat) == (nth a1 g178.t13.toNat))) = true then
      some (.inr (.inl ()))
    else
      some (.inl ⟨(wI (g178.t13 + 1))⟩))))
  else
    some (.inr (.inr ())))
noncomputable def laws_sameBools (a0 : (List Bool)) (a1 : (List Bool)) : Option Bool :=
  (if (((a0.length : Nat) : Int) != ((a1.length : Nat) : Int)) = true then
    some false
  else
    ((loopF (laws_sameBools_L1 a0 a1) ⟨0⟩).bind fun y179 =>
    match y179 with
    | .inl p180 =>
      some false
    | .inr p181 =>
      some true))
structure spec_l1Cur_breaker_o_J2027 where
  b2_0 : Int
  b2_1 : Int
  b2_2 : Int
  b2_3 : Int
  b2_4 : Int
structure spec_l1Cur_breaker_o_J2038 where
  b0_0 : (List Int)
  b0_1 : Int
  b0_2 : Int
  b2_2 : Int
structure spec_l1Cur_breaker_o_J4007 where
  t38 : Bool
  b0_0 : (List Int)
  b0_1 : Int
  b0_2 : Int
structure spec_l1Cur_breaker_o_J12027 where
  b2_0 : Int
  b2_1 : Int
  b2_2 : Int
  b2_3 : Int
  b2_4 : Int
structure spec_l1Cur_breaker_o_J12038 where
  b0_0 : (List Int)
  b0_1 : Int
  b0_2 : Int
  b2_2 : Int
structure spec_l1Cur_breaker_o_J14007 where
  t38 : Bool
  b0_0 : (List Int)
  b0_1 : Int
  b0_2 : Int
noncomputable def spec_l1Cur_breaker_o (a0 : l1CurT) : Option (BreakerT × l1CurT) :=
  ((spec_l1Cur_calls_o a0).bind fun c199 =>
  (if (decide (((c199.1.length : Nat) : Int) > 120)) = true then
    (guardO (0 ≤ 0 ∧ 0 ≤ 20 ∧ 20 ≤ ((c199.1.length : Nat) : Int)) <|
    ((spec_l1Cur_pick_o c199.2 4).bind fun c200 =>
    ((spec_l1Cur_pick_o c200.2 30).bind fun c201 =>
    ((spec_PlayBreaker (wI (1 + c200.1)) (wI (1 + c201.1)) (c199.1.take 20)).bind fun c202 =>
    (((if (!c202.2.2) = true then
        ((spec_NewBreaker 2 5).bind fun c203 =>
        some (⟨c203.1.Limit, c203.1.Cool, c203.1.State, c203.1.Fails, c203.1.Opened⟩ : spec_l1Cur_breaker_o_J2027))
      else
        some (⟨c202.1.Limit, c202.1.Cool, c202.1.State, c202.1.Fails, c202.1.Opened⟩ : spec_l1Cur_breaker_o_J2027)) : Option spec_l1Cur_breaker_o_J2027).bind fun p204 =>
    (((((if (p204.b2_2 == 1) = true then
          ((spec_l1Cur_one_o c201.2 6).bind fun c205 =>
          some (⟨c205.1, c205.2.code, c205.2.at_, c205.2.seed⟩ : spec_l1Cur_breaker_o_J4007))
        else
          some (⟨false, c201.2.code, c201.2.at_, c201.2.seed⟩ : spec_l1Cur_breaker_o_J4007)) : Option spec_l1Cur_breaker_o_J4007).bind fun p206 =>
      (if p206.t38 = true then
        some (⟨p206.b0_0, p206.b0_1, p206.b0_2, 2⟩ : spec_l1Cur_breaker_o_J2038)
      else
        some (⟨p206.b0_0, p206.b0_1, p206.b0_2, p204.b2_2⟩ : spec_l1Cur_breaker_o_J2038))) : Option spec_l1Cur_breaker_o_J2038).bind fun p207 =>
    ((spec_l1Cur_one_o (⟨p207.b0_0, p207.b0_1, p207.b0_2⟩ : l1CurT) 30).bind fun c208 =>
    (if c208.1 = true then
      some ((⟨p204.b2_0, p204.b2_1, p207.b2_2, (wI (p204.b2_3 + 1)), p204.b2_4⟩ : BreakerT), c208.2)
    else
      some ((⟨p204.b2_0, p204.b2_1, p207.b2_2, p204.b2_3, p204.b2_4⟩ : BreakerT), c208.2)))))))))
  else
    ((spec_l1Cur_pick_o c199.2 4).bind fun c209 =>
    ((spec_l1Cur_pick_o c209.2 30).bind fun c210 =>
    ((spec_PlayBreaker (wI (1 + c209.1)) (wI (1 + c210.1)) c199.1).bind fun c211 =>
    (((if (!c211.2.2) = true then
        ((spec_NewBreaker 2 5).bind fun c212 =>
        some (⟨c212.1.Limit, c212.1.Cool, c212.1.State, c212.1.Fails, c212.1.Opened⟩ : spec_l1Cur_breaker_o_J12027))
      else
        some (⟨c211.1.Limit, c211.1.Cool, c211.1.State, c211.1.Fails, c211.1.Opened⟩ : spec_l1Cur_breaker_o_J12027)) : Option spec_l1Cur_breaker_o_J12027).bind fun p213 =>
    (((((if (p213.b2_2 == 1) = true then
          ((spec_l1Cur_one_o c210.2 6).bind fun c214 =>
          some (⟨c214.1, c214.2.code, c214.2.at_, c214.2.seed⟩ : spec_l1Cur_breaker_o_J14007))
        else
          some (⟨false, c210.2.code, c210.2.at_, c210.2.seed⟩ : spec_l1Cur_breaker_o_J14007)) : Option spec_l1Cur_breaker_o_J14007).bind fun p215 =>
      (if p215.t38 = true then
        some (⟨p215.b0_0, p215.b0_1, p215.b0_2, 2⟩ : spec_l1Cur_breaker_o_J12038)
      else
        some (⟨p215.b0_0, p215.b0_1, p215.b0_2, p213.b2_2⟩ : spec_l1Cur_breaker_o_J12038))) : Option spec_l1Cur_breaker_o_J12038).bind fun p216 =>
    ((spec_l1Cur_one_o (⟨p216.b0_0, p216.b0_1, p216.b0_2⟩ : l1CurT) 30).bind fun c217 =>
    (if c217.1 = true then
      some ((⟨p213.b2_0, p213.b2_1, p216.b2_2, (wI (p213.b2_3 + 1)), p213.b2_4⟩ : BreakerT), c217.2)
    else
      some ((⟨p213.b2_0, p213.b2_1, p216.b2_2, p213.b2_3, p213.b2_4⟩ : BreakerT), c217.2))))))))))
noncomputable def spec_DrawCallBreaker (a0 : (List Int)) : Option (BreakerT × CallT) :=
  ((spec_l1Cur_breaker_o (⟨a0, 0, 0⟩ : l1CurT)).bind fun c218 =>
  ((spec_l1Cur_pick_o c218.2 60).bind fun c219 =>
  ((spec_l1Cur_pick_o c219.2 2).bind fun c220 =>
  ((spec_l1Cur_one_o c220.2 2).bind fun c221 =>
  some (c218.1, (⟨(wI ((wI (c218.1.Opened + c219.1)) - c220.1)), c221.1⟩ : CallT))))))
structure impl_CallBreaker_J4001 where
  t16 : Bool
noncomputable def impl_CallBreaker (a0 : BreakerT) (a1 : CallT) : Option (BreakerT × Bool × Bool) :=
  ((((impl_GoodBreaker a0).bind fun c223 =>
    (if (!c223) = true then
      some (⟨true⟩ : impl_CallBreaker_J4001)
    else
      ((impl_isTime a1.Now).bind fun c224 =>
      some (⟨(!c224)⟩ : impl_CallBreaker_J4001)))) : Option impl_CallBreaker_J4001).bind fun p225 =>
  (if p225.t16 = true then
    some ((⟨0, 0, 0, 0, 0⟩ : BreakerT), false, false)
  else
    ((impl_Breaker_call_o a0 a1).bind fun c226 =>
    some (c226.2, c226.1, true))))
structure spec_GoodBreaker_J4001 where
  t24 : Bool
noncomputable def spec_GoodBreaker (a0 : BreakerT) : Option Bool :=
  ((((spec_l1In a0.Limit 1 20).bind fun c228 =>
    (if (!c228) = true then
      some (⟨true⟩ : spec_GoodBreaker_J4001)
    else
      ((spec_l1In a0.Cool 1 10000).bind fun c229 =>
      (if (!c229) = true then
        some (⟨true⟩ : spec_GoodBreaker_J4001)
      else
        ((spec_l1In a0.State 0 2).bind fun c230 =>
        (if (!c230) = true then
          some (⟨true⟩ : spec_GoodBreaker_J4001)
        else
          ((spec_l1In a0.Opened 0 1000000).bind fun c231 =>
          some (⟨(!c231)⟩ : spec_GoodBreaker_J4001)))))))) : Option spec_GoodBreaker_J4001).bind fun p232 =>
  (if p232.t24 = true then
    some false
  else
    (if (a0.State == 0) = true then
      ((spec_l1In a0.Fails 0 (wI (a0.Limit - 1))).bind fun c233 =>
      (if c233 = true then
        some (a0.Opened == 0)
      else
        some false))
    else
      some (a0.Fails == a0.Limit))))
structure spec_CallBreaker_J4001 where
  t17 : Bool
noncomputable def spec_CallBreaker (a0 : BreakerT) (a1 : CallT) : Option (BreakerT × Bool × Bool) :=
  ((((spec_GoodBreaker a0).bind fun c234 =>
    (if (!c234) = true then
      some (⟨true⟩ : spec_CallBreaker_J4001)
    else
      ((spec_l1In a1.Now 0 1000000).bind fun c235 =>
      some (⟨(!c235)⟩ : spec_CallBreaker_J4001)))) : Option spec_CallBreaker_J4001).bind fun p236 =>
  (if p236.t17 = true then
    some ((⟨0, 0, 0, 0, 0⟩ : BreakerT), false, false)
  else
    ((spec_l10Call a0 a1).bind fun c237 =>
    some (c237.1, c237.2, true))))
structure impl_AllowsAt_J4001 where
  t13 : Bool
noncomputable def impl_AllowsAt (a0 : BreakerT) (a1 : Int) : Option (Bool × Bool) :=
  ((((impl_GoodBreaker a0).bind fun c239 =>
    (if (!c239) = true then
      some (⟨true⟩ : impl_AllowsAt_J4001)
    else
      ((impl_isTime a1).bind fun c240 =>
      some (⟨(!c240)⟩ : impl_AllowsAt_J4001)))) : Option impl_AllowsAt_J4001).bind fun p241 =>
  (if p241.t13 = true then
    some (false, false)
  else
    ((impl_Breaker_allows_r a0 a1).bind fun c242 =>
    some (c242, true))))
structure laws_FnBreaker_J4006 where
  t70 : Bool
structure laws_FnBreaker_G1 where
  t14 : Int
  t15 : Int
  t74 : Int
structure laws_FnBreaker_P1_1 where
  t15 : Int
structure laws_FnBreaker_J14014 where
  t18 : Bool
structure laws_FnBreaker_J14022 where
  t107 : Bool
noncomputable def laws_FnBreaker_L1 (c137 : (Int × Int × (List CallT))) (c160 : (BreakerT × (List Bool) × Bool)) (g184 : laws_FnBreaker_G1) : Option (laws_FnBreaker_G1 ⊕ (Unit ⊕ laws_FnBreaker_P1_1)) :=
  (if (decide (g184.t74 < ((c137.2.2.length : Nat) : Int))) = true then
    (guardO (0 ≤ g184.t74 ∧ g184.t74 < ((c137.2.2.length : Nat) : Int)) <|
    (((if (decide (g184.t15 < 0)) = true then
        some (⟨true⟩ : laws_FnBreaker_J14014)
      else
        some (⟨(decide (((nth c137.2.2 g184.t74.toNat).Now) ≥ (wI (g184.t15 + c137.2.1))))⟩ : laws_FnBreaker_J14014)) : Option laws_FnBreaker_J14014).bind fun p187 =>
    (guardO (0 ≤ g184.t74 ∧ g184.t74 < ((c160.2.1.length : Nat) : Int)) <|
    (if (!((nth c160.2.1 g184.t74.toNat) == p187.t18)) = true then
      some (.inr (.inl ()))
    else
      (if (!p187.t18) = true then
        some (.inl ⟨g184.t14, g184.t15, (wI (g184.t74 + 1))⟩)
      else
        (if (nth c137.2.2 g184.t74.toNat).Fine = true then
          some (.inl ⟨0, (-1), (wI (g184.t74 + 1))⟩)
        else
          (((if (decide (g184.t15 ≥ 0)) = true then
              some (⟨true⟩ : laws_FnBreaker_J14022)
            else
              some (⟨((wI (g184.t14 + 1)) == c137.1)⟩ : laws_FnBreaker_J14022)) : Option laws_FnBreaker_J14022).bind fun p188 =>
          (if p188.t107 = true then
            some (.inl ⟨c137.1, (nth c137.2.2 g184.t74.toNat).Now, (wI (g184.t74 + 1))⟩)
          else
            some (.inl ⟨(wI (g184.t14 + 1)), g184.t15, (wI (g184.t74 + 1))⟩)))))))))
  else
    some (.inr (.inr (⟨g184.t15⟩))))
structure laws_FnBreaker_J4026 where
  t122 : Bool
structure laws_FnBreaker_J4032 where
  t166 : Bool
noncomputable def laws_FnBreaker (a0 : (List Int)) (a1 : (List Int)) : Option Bool :=
  (if (decide ((wI (((a0.length : Nat) : Int) + ((a1.length : Nat) : Int))) > 1048576)) = true then
    some true
  else
    ((spec_DrawPlayBreaker a0).bind fun c137 =>
    ((impl_PlayBreaker c137.1 c137.2.1 c137.2.2).bind fun c160 =>
    ((spec_PlayBreaker c137.1 c137.2.1 c137.2.2).bind fun c177 =>
    (((if (!(c160.2.2 == c177.2.2)) = true then
        some (⟨true⟩ : laws_FnBreaker_J4006)
      else
        (if (!((c160.1.Limit == c177.1.Limit) && ((c160.1.Cool == c177.1.Cool) && ((c160.1.State == c177.1.State) && ((c160.1.Fails == c177.1.Fails) && (c160.1.Opened == c177.1.Opened)))))) = true then
          some (⟨true⟩ : laws_FnBreaker_J4006)
        else
          ((laws_sameBools c160.2.1 c177.2.1).bind fun c182 =>
          some (⟨(!c182)⟩ : laws_FnBreaker_J4006)))) : Option laws_FnBreaker_J4006).bind fun p183 =>
    (if p183.t70 = true then
      some false
    else
      (((if c160.2.2 = true then
          ((loopF (laws_FnBreaker_L1 c137 c160) ⟨0, (-1), 0⟩).bind fun y189 =>
          match y189 with
          | .inl p190 =>
            some (.inr false)
          | .inr p191 =>
            (((if (!((c160.1.State == 1) == (decide (p191.t15 ≥ 0)))) = true then
                some (⟨true⟩ : laws_FnBreaker_J4026)
              else
                ((impl_GoodBreaker c160.1).bind fun c192 =>
                some (⟨(!c192)⟩ : laws_FnBreaker_J4026))) : Option laws_FnBreaker_J4026).bind fun p193 =>
            (if p193.t122 = true then
              some (.inr false)
            else
              some (.inl (() : Unit)))))
        else
          some (.inl (() : Unit))) : Option (Unit ⊕ Bool)).bind fun q => match q with
      | .inl p196 =>
        ((spec_DrawCallBreaker a1).bind fun c222 =>
        ((impl_CallBreaker c222.1 c222.2).bind fun c227 =>
        ((spec_CallBreaker c222.1 c222.2).bind fun c238 =>
        ((impl_AllowsAt c222.1 c222.2.Now).bind fun c243 =>
        (((if (!(c227.2.2 == c238.2.2)) = true then
            some (⟨true⟩ : laws_FnBreaker_J4032)
          else
            (if (!((c227.1.Limit == c238.1.Limit) && ((c227.1.Cool == c238.1.Cool) && ((c227.1.State == c238.1.State) && ((c227.1.Fails == c238.1.Fails) && (c227.1.Opened == c238.1.Opened)))))) = true then
              some (⟨true⟩ : laws_FnBreaker_J4032)
            else
              (if (!(c227.2.1 == c238.2.1)) = true then
                some (⟨true⟩ : laws_FnBreaker_J4032)
              else
                some (⟨(!(c243.2 == c238.2.2))⟩ : laws_FnBreaker_J4032)))) : Option laws_FnBreaker_J4032).bind fun p244 =>
        (if p244.t166 = true then
          some false
        else
          (if (!c227.2.2) = true then
            some true
          else
            (if (c227.2.1 == c243.1) = true then
              ((impl_GoodBreaker c227.1).bind fun c245 =>
              (if c245 = true then
                (if c227.2.1 = true then
                  some true
                else
                  some ((c227.1.Limit == c222.1.Limit) && ((c227.1.Cool == c222.1.Cool) && ((c227.1.State == c222.1.State) && ((c227.1.Fails == c222.1.Fails) && (c227.1.Opened == c222.1.Opened))))))
              else
                some false))
            else
              some false))))))))
      | .inr v => some v)))))))
end Go.TL

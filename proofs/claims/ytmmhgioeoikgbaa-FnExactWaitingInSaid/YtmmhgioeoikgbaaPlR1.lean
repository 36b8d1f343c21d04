import Derived.Test.YtmmhgioeoikgbaaTlPure
set_option linter.unusedSimpArgs false
set_option linter.unusedVariables false
namespace Go.TL
structure PacketT where
  Ack : Bool
  No : Int
  Text : ByteArray
  deriving DecidableEq, Inhabited
structure QueueT where
  Window : Int
  Sent : (List ByteArray)
  Base : Int
  Got : (List ByteArray)
  Line : (List PacketT)
  deriving DecidableEq, Inhabited
structure laws_szStringS_G1 where
  t1 : Int
  t5 : Int
structure laws_szStringS_P1_1 where
  t1 : Int
noncomputable def laws_szStringS_L1 (a0 : (List ByteArray)) (g1 : laws_szStringS_G1) : Option (laws_szStringS_G1 ⊕ (Unit ⊕ laws_szStringS_P1_1)) :=
  (if (decide (g1.t5 < ((a0.length : Nat) : Int))) = true then
    (guardO (0 ≤ g1.t5 ∧ g1.t5 < (a0.length : Int)) <|
    (if (decide ((wI (g1.t1 - ((nth a0 g1.t5.toNat).size : Int))) < 0)) = true then
      some (.inr (.inl ()))
    else
      some (.inl ⟨(wI (g1.t1 - ((nth a0 g1.t5.toNat).size : Int))), (wI (g1.t5 + 1))⟩)))
  else
    some (.inr (.inr (⟨g1.t1⟩))))
noncomputable def laws_szStringS (a0 : (List ByteArray)) (a1 : Int) : Option Int :=
  (if (decide ((wI (a1 - ((a0.length : Nat) : Int))) < 0)) = true then
    some (-1)
  else
    ((loopF (laws_szStringS_L1 a0) ⟨(wI (a1 - ((a0.length : Nat) : Int))), 0⟩).bind fun y2 =>
    match y2 with
    | .inl p3 =>
      some (-1)
    | .inr p4 =>
      some p4.t1))
noncomputable def laws_szPacket (a0 : PacketT) (a1 : Int) : Option Int :=
  (if (decide ((wI (a1 - (a0.Text.size : Int))) < 0)) = true then
    some (-1)
  else
    some (wI (a1 - (a0.Text.size : Int))))
structure laws_szPacketS_G1 where
  t1 : Int
  t5 : Int
structure laws_szPacketS_P1_1 where
  t1 : Int
noncomputable def laws_szPacketS_L1 (a0 : (List PacketT)) (g7 : laws_szPacketS_G1) : Option (laws_szPacketS_G1 ⊕ (Unit ⊕ laws_szPacketS_P1_1)) :=
  (if (decide (g7.t5 < ((a0.length : Nat) : Int))) = true then
    (guardO (0 ≤ g7.t5 ∧ g7.t5 < (a0.length : Int)) <|
    ((laws_szPacket (nth a0 g7.t5.toNat) g7.t1).bind fun c9 =>
    (if (decide (c9 < 0)) = true then
      some (.inr (.inl ()))
    else
      some (.inl ⟨c9, (wI (g7.t5 + 1))⟩))))
  else
    some (.inr (.inr (⟨g7.t1⟩))))
noncomputable def laws_szPacketS (a0 : (List PacketT)) (a1 : Int) : Option Int :=
  (if (decide ((wI (a1 - ((a0.length : Nat) : Int))) < 0)) = true then
    some (-1)
  else
    ((loopF (laws_szPacketS_L1 a0) ⟨(wI (a1 - ((a0.length : Nat) : Int))), 0⟩).bind fun y10 =>
    match y10 with
    | .inl p11 =>
      some (-1)
    | .inr p12 =>
      some p12.t1))
noncomputable def laws_szQueue (a0 : QueueT) (a1 : Int) : Option Int :=
  ((laws_szStringS a0.Sent a1).bind fun c5 =>
  (if (decide (c5 < 0)) = true then
    some (-1)
  else
    ((laws_szStringS a0.Got c5).bind fun c6 =>
    (if (decide (c6 < 0)) = true then
      some (-1)
    else
      ((laws_szPacketS a0.Line c6).bind fun c13 =>
      (if (decide (c13 < 0)) = true then
        some (-1)
      else
        some c13))))))
structure laws_toStringS_G1 where
  t4 : Int
  c0 : (List ByteArray)
structure laws_toStringS_P1_0 where
  c0 : (List ByteArray)
noncomputable def laws_toStringS_L1 (a0 : (List ByteArray)) (g15 : laws_toStringS_G1) : Option (laws_toStringS_G1 ⊕ laws_toStringS_P1_0) :=
  (if (decide (g15.t4 < ((a0.length : Nat) : Int))) = true then
    (guardO (0 ≤ g15.t4 ∧ g15.t4 < (a0.length : Int)) <|
    (guardO (0 ≤ g15.t4 ∧ g15.t4 < ((g15.c0.length : Nat) : Int)) <|
    some (.inl ⟨(wI (g15.t4 + 1)), (g15.c0.set g15.t4.toNat (nth a0 g15.t4.toNat))⟩)))
  else
    some (.inr (⟨g15.c0⟩)))
noncomputable def laws_toStringS (a0 : (List ByteArray)) : Option (List ByteArray) :=
  (guardO (0 ≤ ((a0.length : Nat) : Int) ∧ ((a0.length : Nat) : Int) * 16 ≤ 281474976710656 ∧ ((a0.length : Nat) : Int) ≤ 9223372036854775807) <|
  ((loopF (laws_toStringS_L1 a0) ⟨0, (List.replicate a0.length ByteArray.empty)⟩).bind fun y16 =>
  some y16.c0))
noncomputable def laws_toPacket (a0 : PacketT) : Option PacketT :=
  some a0
structure laws_toPacketS_G1 where
  t4 : Int
  c0 : (List PacketT)
structure laws_toPacketS_P1_0 where
  c0 : (List PacketT)
noncomputable def laws_toPacketS_L1 (a0 : (List PacketT)) (g19 : laws_toPacketS_G1) : Option (laws_toPacketS_G1 ⊕ laws_toPacketS_P1_0) :=
  (if (decide (g19.t4 < ((a0.length : Nat) : Int))) = true then
    (guardO (0 ≤ g19.t4 ∧ g19.t4 < (a0.length : Int)) <|
    ((laws_toPacket (nth a0 g19.t4.toNat)).bind fun c21 =>
    (guardO (0 ≤ g19.t4 ∧ g19.t4 < ((g19.c0.length : Nat) : Int)) <|
    some (.inl ⟨(wI (g19.t4 + 1)), (g19.c0.set g19.t4.toNat c21)⟩))))
  else
    some (.inr (⟨g19.c0⟩)))
noncomputable def laws_toPacketS (a0 : (List PacketT)) : Option (List PacketT) :=
  (guardO (0 ≤ ((a0.length : Nat) : Int) ∧ ((a0.length : Nat) : Int) * 32 ≤ 281474976710656 ∧ ((a0.length : Nat) : Int) ≤ 9223372036854775807) <|
  ((loopF (laws_toPacketS_L1 a0) ⟨0, (List.replicate a0.length (⟨false, 0, ByteArray.empty⟩ : PacketT))⟩).bind fun y22 =>
  some y22.c0))
noncomputable def laws_toQueue (a0 : QueueT) : Option QueueT :=
  ((laws_toStringS a0.Sent).bind fun c17 =>
  ((laws_toStringS a0.Got).bind fun c18 =>
  ((laws_toPacketS a0.Line).bind fun c23 =>
  some (⟨a0.Window, c17, a0.Base, c18, c23⟩ : QueueT))))
noncomputable def spec_l1In (a0 : Int) (a1 : Int) (a2 : Int) : Option Bool :=
  (if (decide (a0 ≥ a1)) = true then
    some (decide (a0 ≤ a2))
  else
    some false)
structure spec_GoodQueue_G1 where
  t44 : Int
noncomputable def spec_GoodQueue_L1 (a0 : QueueT) (g27 : spec_GoodQueue_G1) : Option (spec_GoodQueue_G1 ⊕ (Unit ⊕ Unit)) :=
  (if (decide (g27.t44 < ((a0.Sent.length : Nat) : Int))) = true then
    (guardO (0 ≤ g27.t44 ∧ g27.t44 < (a0.Sent.length : Int)) <|
    (if (decide (((nth a0.Sent g27.t44.toNat).size : Int) > 12)) = true then
      some (.inr (.inl ()))
    else
      (if (decide (g27.t44 < ((a0.Got.length : Nat) : Int))) = true then
        (guardO (0 ≤ g27.t44 ∧ g27.t44 < (a0.Got.length : Int)) <|
        (if (!((nth a0.Got g27.t44.toNat).toList == (nth a0.Sent g27.t44.toNat).toList)) = true then
          some (.inr (.inl ()))
        else
          some (.inl ⟨(wI (g27.t44 + 1))⟩)))
      else
        some (.inl ⟨(wI (g27.t44 + 1))⟩))))
  else
    some (.inr (.inr ())))
structure spec_GoodQueue_G2 where
  t72 : Int
noncomputable def spec_GoodQueue_L2 (a0 : QueueT) (g31 : spec_GoodQueue_G2) : Option (spec_GoodQueue_G2 ⊕ (Unit ⊕ Unit)) :=
  (if (decide (g31.t72 < ((a0.Line.length : Nat) : Int))) = true then
    (guardO (0 ≤ g31.t72 ∧ g31.t72 < (a0.Line.length : Int)) <|
    (if (nth a0.Line g31.t72.toNat).Ack = true then
      ((spec_l1In ((nth a0.Line g31.t72.toNat).No) 0 ((a0.Got.length : Nat) : Int)).bind fun c34 =>
      (if (!c34) = true then
        some (.inr (.inl ()))
      else
        (if (!(((nth a0.Line g31.t72.toNat).Text).toList == ByteArray.empty.toList)) = true then
          some (.inr (.inl ()))
        else
          some (.inl ⟨(wI (g31.t72 + 1))⟩))))
    else
      ((spec_l1In ((nth a0.Line g31.t72.toNat).No) 0 (wI (((a0.Sent.length : Nat) : Int) - 1))).bind fun c35 =>
      (if (!c35) = true then
        some (.inr (.inl ()))
      else
        (if (decide (((nth a0.Line g31.t72.toNat).No) ≥ (wI (a0.Base + a0.Window)))) = true then
          some (.inr (.inl ()))
        else
          (guardO (0 ≤ ((nth a0.Line g31.t72.toNat).No) ∧ ((nth a0.Line g31.t72.toNat).No) < (a0.Sent.length : Int)) <|
          (if (!(((nth a0.Line g31.t72.toNat).Text).toList == (nth a0.Sent (((nth a0.Line g31.t72.toNat).No).toNat)).toList)) = true then
            some (.inr (.inl ()))
          else
            some (.inl ⟨(wI (g31.t72 + 1))⟩))))))))
  else
    some (.inr (.inr ())))
noncomputable def spec_GoodQueue (a0 : QueueT) : Option Bool :=
  ((spec_l1In a0.Window 1 10).bind fun c25 =>
  (if (!c25) = true then
    some false
  else
    (if (decide (((a0.Sent.length : Nat) : Int) > 40)) = true then
      some false
    else
      (if (decide (((a0.Got.length : Nat) : Int) > ((a0.Sent.length : Nat) : Int))) = true then
        some false
      else
        ((spec_l1In a0.Base 0 ((a0.Got.length : Nat) : Int)).bind fun c26 =>
        (if (!c26) = true then
          some false
        else
          (if (decide (((a0.Line.length : Nat) : Int) > 40)) = true then
            some false
          else
            ((loopF (spec_GoodQueue_L1 a0) ⟨0⟩).bind fun y28 =>
            match y28 with
            | .inl p29 =>
              some false
            | .inr p30 =>
              ((loopF (spec_GoodQueue_L2 a0) ⟨0⟩).bind fun y36 =>
              match y36 with
              | .inl p37 =>
                some false
              | .inr p38 =>
                some true)))))))))
noncomputable def impl_in (a0 : Int) (a1 : Int) (a2 : Int) : Option Bool :=
  (if (decide (a0 ≥ a1)) = true then
    some (decide (a0 ≤ a2))
  else
    some false)
noncomputable def impl_GoodQueue_c1 (a0 : ByteArray) : Option Bool :=
  some (decide ((a0.size : Int) > 12))
structure slices_IndexFunc_string_impl_GoodQueue_c1_G1 where
  t8 : Int
structure slices_IndexFunc_string_impl_GoodQueue_c1_P1_0 where
  t4 : Int
noncomputable def slices_IndexFunc_string_impl_GoodQueue_c1_L1 (a0 : (List ByteArray)) (g50 : slices_IndexFunc_string_impl_GoodQueue_c1_G1) : Option (slices_IndexFunc_string_impl_GoodQueue_c1_G1 ⊕ (slices_IndexFunc_string_impl_GoodQueue_c1_P1_0 ⊕ Unit)) :=
  (if (decide (g50.t8 < ((a0.length : Nat) : Int))) = true then
    (guardO (0 ≤ g50.t8 ∧ g50.t8 < (a0.length : Int)) <|
    ((impl_GoodQueue_c1 (nth a0 g50.t8.toNat)).bind fun c52 =>
    (if c52 = true then
      some (.inr (.inl (⟨g50.t8⟩)))
    else
      some (.inl ⟨(wI (g50.t8 + 1))⟩))))
  else
    some (.inr (.inr ())))
noncomputable def slices_IndexFunc_string_impl_GoodQueue_c1 (a0 : (List ByteArray)) : Option Int :=
  ((loopF (slices_IndexFunc_string_impl_GoodQueue_c1_L1 a0) ⟨0⟩).bind fun y53 =>
  match y53 with
  | .inl p54 =>
    some p54.t4
  | .inr p55 =>
    some (-1))
noncomputable def slices_ContainsFunc_string_impl_GoodQueue_c1 (a0 : (List ByteArray)) : Option Bool :=
  ((slices_IndexFunc_string_impl_GoodQueue_c1 a0).bind fun c56 =>
  some (decide (c56 ≥ 0)))
structure slices_Equal_string_G1 where
  t13 : Int
noncomputable def slices_Equal_string_L1 (a0 : (List ByteArray)) (a1 : (List ByteArray)) (g58 : slices_Equal_string_G1) : Option (slices_Equal_string_G1 ⊕ (Unit ⊕ Unit)) :=
  (if (decide (g58.t13 < ((a0.length : Nat) : Int))) = true then
    (guardO (0 ≤ g58.t13 ∧ g58.t13 < (a0.length : Int)) <|
    (guardO (0 ≤ g58.t13 ∧ g58.t13 < (a1.length : Int)) <|
    (if (!((nth a0 g58.t13.toNat).toList == (nth a1 g58.t13.toNat).toList)) = true then
      some (.inr (.inl ()))
    else
      some (.inl ⟨(wI (g58.t13 + 1))⟩))))
  else
    some (.inr (.inr ())))
noncomputable def slices_Equal_string (a0 : (List ByteArray)) (a1 : (List ByteArray)) : Option Bool :=
  (if (((a0.length : Nat) : Int) != ((a1.length : Nat) : Int)) = true then
    some false
  else
    ((loopF (slices_Equal_string_L1 a0 a1) ⟨0⟩).bind fun y59 =>
    match y59 with
    | .inl p60 =>
      some false
    | .inr p61 =>
      some true))
noncomputable def impl_Queue_packetOk_r (a0 : QueueT) (a1 : PacketT) : Option Bool :=
  (if a1.Ack = true then
    ((impl_in a1.No 0 ((a0.Got.length : Nat) : Int)).bind fun c65 =>
    (if c65 = true then
      some (a1.Text.toList == ByteArray.empty.toList)
    else
      some false))
  else
    ((impl_in a1.No 0 (wI ((min ((a0.Sent.length : Nat) : Int) (wI (a0.Base + a0.Window))) - 1))).bind fun c66 =>
    (if c66 = true then
      (guardO (0 ≤ a1.No ∧ a1.No < (a0.Sent.length : Int)) <|
      some (a1.Text.toList == (nth a0.Sent a1.No.toNat).toList))
    else
      some false)))
noncomputable def impl_GoodQueue_c2_r (a0 : PacketT) (a1 : QueueT) : Option Bool :=
  ((impl_Queue_packetOk_r a1 a0).bind fun c67 =>
  some (!c67))
structure slices_IndexFunc_impl_Packet_impl_GoodQueue_c2r_G1 where
  t8 : Int
structure slices_IndexFunc_impl_Packet_impl_GoodQueue_c2r_P1_0 where
  t4 : Int
noncomputable def slices_IndexFunc_impl_Packet_impl_GoodQueue_c2r_L1 (a0 : (List PacketT)) (a1 : QueueT) (g64 : slices_IndexFunc_impl_Packet_impl_GoodQueue_c2r_G1) : Option (slices_IndexFunc_impl_Packet_impl_GoodQueue_c2r_G1 ⊕ (slices_IndexFunc_impl_Packet_impl_GoodQueue_c2r_P1_0 ⊕ Unit)) :=
  (if (decide (g64.t8 < ((a0.length : Nat) : Int))) = true then
    (guardO (0 ≤ g64.t8 ∧ g64.t8 < (a0.length : Int)) <|
    ((impl_GoodQueue_c2_r (nth a0 g64.t8.toNat) a1).bind fun c69 =>
    (if c69 = true then
      some (.inr (.inl (⟨g64.t8⟩)))
    else
      some (.inl ⟨(wI (g64.t8 + 1))⟩))))
  else
    some (.inr (.inr ())))
noncomputable def slices_IndexFunc_impl_Packet_impl_GoodQueue_c2r (a0 : (List PacketT)) (a1 : QueueT) : Option Int :=
  ((loopF (slices_IndexFunc_impl_Packet_impl_GoodQueue_c2r_L1 a0 a1) ⟨0⟩).bind fun y70 =>
  match y70 with
  | .inl p71 =>
    some p71.t4
  | .inr p72 =>
    some (-1))
noncomputable def slices_ContainsFunc_impl_Packet_impl_GoodQueue_c2r (a0 : (List PacketT)) (a1 : QueueT) : Option Bool :=
  ((slices_IndexFunc_impl_Packet_impl_GoodQueue_c2r a0 a1).bind fun c73 =>
  some (decide (c73 ≥ 0)))
noncomputable def impl_GoodQueue (a0 : QueueT) : Option Bool :=
  ((impl_in a0.Window 1 10).bind fun c49 =>
  (if (!c49) = true then
    some false
  else
    (if (decide (((a0.Sent.length : Nat) : Int) > 40)) = true then
      some false
    else
      ((slices_ContainsFunc_string_impl_GoodQueue_c1 a0.Sent).bind fun c57 =>
      (if c57 = true then
        some false
      else
        (if (decide (((a0.Got.length : Nat) : Int) > ((a0.Sent.length : Nat) : Int))) = true then
          some false
        else
          (guardO (0 ≤ ((a0.Got.length : Nat) : Int) ∧ ((a0.Got.length : Nat) : Int) ≤ (a0.Sent.length : Int)) <|
          ((slices_Equal_string a0.Got (a0.Sent.take a0.Got.length)).bind fun c62 =>
          (if (!c62) = true then
            some false
          else
            ((impl_in a0.Base 0 ((a0.Got.length : Nat) : Int)).bind fun c63 =>
            (if (!c63) = true then
              some false
            else
              (if (decide (((a0.Line.length : Nat) : Int) > 40)) = true then
                some false
              else
                ((slices_ContainsFunc_impl_Packet_impl_GoodQueue_c2r a0.Line a0).bind fun c74 =>
                some (!c74))))))))))))))
structure laws_eqStringS_G1 where
  t5 : Int
noncomputable def laws_eqStringS_L1 (a0 : (List ByteArray)) (a1 : (List ByteArray)) (g77 : laws_eqStringS_G1) : Option (laws_eqStringS_G1 ⊕ (Unit ⊕ Unit)) :=
  (if (decide (g77.t5 < ((a0.length : Nat) : Int))) = true then
    (guardO (0 ≤ g77.t5 ∧ g77.t5 < (a0.length : Int)) <|
    (guardO (0 ≤ g77.t5 ∧ g77.t5 < (a1.length : Int)) <|
    (if (!((nth a0 g77.t5.toNat).toList == (nth a1 g77.t5.toNat).toList)) = true then
      some (.inr (.inl ()))
    else
      some (.inl ⟨(wI (g77.t5 + 1))⟩))))
  else
    some (.inr (.inr ())))
noncomputable def laws_eqStringS (a0 : (List ByteArray)) (a1 : (List ByteArray)) : Option Bool :=
  (if (((a0.length : Nat) : Int) != ((a1.length : Nat) : Int)) = true then
    some false
  else
    ((loopF (laws_eqStringS_L1 a0 a1) ⟨0⟩).bind fun y78 =>
    match y78 with
    | .inl p79 =>
      some false
    | .inr p80 =>
      some true))
noncomputable def laws_eqPacket (a0 : PacketT) (a1 : PacketT) : Option Bool :=
  (if (!(a0.Ack == a1.Ack)) = true then
    some false
  else
    (if (a0.No != a1.No) = true then
      some false
    else
      (if (!(a0.Text.toList == a1.Text.toList)) = true then
        some false
      else
        some true)))
structure laws_eqPacketS_G1 where
  t5 : Int
noncomputable def laws_eqPacketS_L1 (a0 : (List PacketT)) (a1 : (List PacketT)) (g83 : laws_eqPacketS_G1) : Option (laws_eqPacketS_G1 ⊕ (Unit ⊕ Unit)) :=
  (if (decide (g83.t5 < ((a0.length : Nat) : Int))) = true then
    (guardO (0 ≤ g83.t5 ∧ g83.t5 < (a0.length : Int)) <|
    (guardO (0 ≤ g83.t5 ∧ g83.t5 < (a1.length : Int)) <|
    ((laws_eqPacket (nth a0 g83.t5.toNat) (nth a1 g83.t5.toNat)).bind fun c85 =>
    (if (!c85) = true then
      some (.inr (.inl ()))
    else
      some (.inl ⟨(wI (g83.t5 + 1))⟩)))))
  else
    some (.inr (.inr ())))
noncomputable def laws_eqPacketS (a0 : (List PacketT)) (a1 : (List PacketT)) : Option Bool :=
  (if (((a0.length : Nat) : Int) != ((a1.length : Nat) : Int)) = true then
    some false
  else
    ((loopF (laws_eqPacketS_L1 a0 a1) ⟨0⟩).bind fun y86 =>
    match y86 with
    | .inl p87 =>
      some false
    | .inr p88 =>
      some true))
noncomputable def laws_eqQueue (a0 : QueueT) (a1 : QueueT) : Option Bool :=
  (if (a0.Window != a1.Window) = true then
    some false
  else
    ((laws_eqStringS a0.Sent a1.Sent).bind fun c81 =>
    (if (!c81) = true then
      some false
    else
      (if (a0.Base != a1.Base) = true then
        some false
      else
        ((laws_eqStringS a0.Got a1.Got).bind fun c82 =>
        (if (!c82) = true then
          some false
        else
          ((laws_eqPacketS a0.Line a1.Line).bind fun c89 =>
          (if (!c89) = true then
            some false
          else
            some true))))))))
noncomputable def laws_FnExactGoodQueue (a0 : QueueT) : Option Bool :=
  ((laws_szQueue a0 1048576).bind fun c14 =>
  (if (decide (c14 < 0)) = true then
    some true
  else
    ((laws_toQueue a0).bind fun c24 =>
    ((spec_GoodQueue c24).bind fun c47 =>
    ((laws_toQueue a0).bind fun c48 =>
    ((impl_GoodQueue c48).bind fun c75 =>
    (if (!(c75 == c47)) = true then
      some false
    else
      ((laws_toQueue a0).bind fun c76 =>
      ((laws_eqQueue c48 c76).bind fun c90 =>
      (if (!c90) = true then
        some false
      else
        some true))))))))))
noncomputable def spec_WaitingIn (a0 : QueueT) : Option (Int × Bool) :=
  ((spec_GoodQueue a0).bind fun c93 =>
  (if (!c93) = true then
    some (0, false)
  else
    some ((wI (((a0.Sent.length : Nat) : Int) - ((a0.Got.length : Nat) : Int))), true)))
noncomputable def impl_WaitingIn (a0 : QueueT) : Option (Int × Bool) :=
  ((impl_GoodQueue a0).bind fun c96 =>
  (if (!c96) = true then
    some (0, false)
  else
    some ((wI (((a0.Sent.length : Nat) : Int) - ((a0.Got.length : Nat) : Int))), true)))
noncomputable def laws_FnExactWaitingIn (a0 : QueueT) : Option Bool :=
  ((laws_szQueue a0 1048576).bind fun c91 =>
  (if (decide (c91 < 0)) = true then
    some true
  else
    ((laws_toQueue a0).bind fun c92 =>
    ((spec_WaitingIn c92).bind fun c94 =>
    ((laws_toQueue a0).bind fun c95 =>
    ((impl_WaitingIn c95).bind fun c97 =>
    (if (c97.1 != c94.1) = true then
      some false
    else
      (if (!(c97.2 == c94.2)) = true then
        some false
      else
        ((laws_toQueue a0).bind fun c98 =>
        ((laws_eqQueue c95 c98).bind fun c99 =>
        (if (!c99) = true then
          some false
        else
          some true)))))))))))
structure l1CurT where
  code : (List Int)
  at_ : Int
  seed : Int
  deriving DecidableEq, Inhabited
noncomputable def spec_l1Cur_next_o (a0 : l1CurT) : Option (Int × l1CurT) :=
  (if (decide (a0.at_ < ((a0.code.length : Nat) : Int))) = true then
    (guardO (0 ≤ a0.at_ ∧ a0.at_ < (a0.code.length : Int)) <|
    (if (decide ((wI (a0.at_ + 1)) ≤ ((a0.code.length : Nat) : Int))) = true then
      some ((wI (nth a0.code a0.at_.toNat)), (⟨a0.code, (wI (a0.at_ + 1)), (wU ((wU ((wU (a0.seed * 6364136223846793005)) + (wU (wI (nth a0.code a0.at_.toNat))))) + 1442695040888963407))⟩ : l1CurT))
    else
      some ((wI (wU (bvAnd 64 (shR 64 (wU ((wU ((wU (a0.seed * 6364136223846793005)) + (wU (wI (nth a0.code a0.at_.toNat))))) + 1442695040888963407)) 40) 255))), (⟨a0.code, (wI (a0.at_ + 1)), (wU ((wU ((wU (a0.seed * 6364136223846793005)) + (wU (wI (nth a0.code a0.at_.toNat))))) + 1442695040888963407))⟩ : l1CurT))))
  else
    (if (decide ((wI (a0.at_ + 1)) ≤ ((a0.code.length : Nat) : Int))) = true then
      some (0, (⟨a0.code, (wI (a0.at_ + 1)), (wU ((wU ((wU (a0.seed * 6364136223846793005)) + 0)) + 1442695040888963407))⟩ : l1CurT))
    else
      some ((wI (wU (bvAnd 64 (shR 64 (wU ((wU ((wU (a0.seed * 6364136223846793005)) + 0)) + 1442695040888963407)) 40) 255))), (⟨a0.code, (wI (a0.at_ + 1)), (wU ((wU ((wU (a0.seed * 6364136223846793005)) + 0)) + 1442695040888963407))⟩ : l1CurT))))
noncomputable def spec_l1Cur_pick_o (a0 : l1CurT) (a1 : Int) : Option (Int × l1CurT) :=
  (if (decide (a1 ≤ 1)) = true then
    some (0, a0)
  else
    ((spec_l1Cur_next_o a0).bind fun c100 =>
    (if (decide (a1 > 200)) = true then
      ((spec_l1Cur_next_o c100.2).bind fun c101 =>
      (guardO (a1 ≠ 0) <|
      some (((wI ((wI (c100.1 * 256)) + c101.1)).tmod a1), c101.2)))
    else
      (guardO (a1 ≠ 0) <|
      some ((c100.1.tmod a1), c100.2)))))
noncomputable def spec_l1Cur_one_o (a0 : l1CurT) (a1 : Int) : Option (Bool × l1CurT) :=
  ((spec_l1Cur_pick_o a0 a1).bind fun c106 =>
  some ((c106.1 == 0), c106.2))
structure CallT where
  Now : Int
  Fine : Bool
  deriving DecidableEq, Inhabited
structure spec_l1Cur_calls_o_G1 where
  t4 : Int
  t5 : Int
  b0_0 : (List Int)
  b0_1 : Int
  b0_2 : Int
  c1 : (List CallT)
structure spec_l1Cur_calls_o_P1_0 where
  b0_0 : (List Int)
  b0_1 : Int
  b0_2 : Int
  c1 : (List CallT)
noncomputable def spec_l1Cur_calls_o_L1 (g109 : spec_l1Cur_calls_o_G1) : Option (spec_l1Cur_calls_o_G1 ⊕ spec_l1Cur_calls_o_P1_0) :=
  (if (decide (g109.t5 > 0)) = true then
    ((spec_l1Cur_one_o (⟨g109.b0_0, g109.b0_1, g109.b0_2⟩ : l1CurT) 3).bind fun c112 =>
    (guardO ((g109.c1.length + 1) * 16 ≤ 140737488355328) <|
    ((spec_l1Cur_pick_o c112.2 8).bind fun c113 =>
    some (.inl ⟨(wI (g109.t4 + c113.1)), (wI (g109.t5 - 1)), c113.2.code, c113.2.at_, c113.2.seed, (g109.c1 ++ ([(⟨g109.t4, c112.1⟩ : CallT)]))⟩))))
  else
    some (.inr (⟨g109.b0_0, g109.b0_1, g109.b0_2, g109.c1⟩)))
structure spec_l1Cur_calls_o_G2 where
  t4 : Int
  t5 : Int
  b0_0 : (List Int)
  b0_1 : Int
  b0_2 : Int
  c1 : (List CallT)
structure spec_l1Cur_calls_o_P2_0 where
  b0_0 : (List Int)
  b0_1 : Int
  b0_2 : Int
  c1 : (List CallT)
noncomputable def spec_l1Cur_calls_o_L2 (g117 : spec_l1Cur_calls_o_G2) : Option (spec_l1Cur_calls_o_G2 ⊕ spec_l1Cur_calls_o_P2_0) :=
  (if (decide (g117.t5 > 0)) = true then
    ((spec_l1Cur_one_o (⟨g117.b0_0, g117.b0_1, g117.b0_2⟩ : l1CurT) 3).bind fun c120 =>
    (guardO ((g117.c1.length + 1) * 16 ≤ 140737488355328) <|
    ((spec_l1Cur_pick_o c120.2 8).bind fun c121 =>
    some (.inl ⟨(wI (g117.t4 + c121.1)), (wI (g117.t5 - 1)), c121.2.code, c121.2.at_, c121.2.seed, (g117.c1 ++ ([(⟨g117.t4, c120.1⟩ : CallT)]))⟩))))
  else
    some (.inr (⟨g117.b0_0, g117.b0_1, g117.b0_2, g117.c1⟩)))
noncomputable def spec_l1Cur_calls_o (a0 : l1CurT) : Option ((List CallT) × l1CurT) :=
  ((spec_l1Cur_pick_o a0 5).bind fun c104 =>
  ((spec_l1Cur_pick_o c104.2 20).bind fun c105 =>
  ((spec_l1Cur_one_o c105.2 20).bind fun c107 =>
  (if c107.1 = true then
    ((spec_l1Cur_pick_o c107.2 2).bind fun c108 =>
    ((loopF (spec_l1Cur_calls_o_L1) ⟨c104.1, (wI (120 + c108.1)), c108.2.code, c108.2.at_, c108.2.seed, []⟩).bind fun y114 =>
    (if (decide (((y114.c1.length : Nat) : Int) > 1)) = true then
      ((spec_l1Cur_one_o (⟨y114.b0_0, y114.b0_1, y114.b0_2⟩ : l1CurT) 30).bind fun c115 =>
      (if c115.1 = true then
        (guardO (1 < ((y114.c1.length : Nat) : Int)) <|
        (guardO (0 < ((y114.c1.length : Nat) : Int)) <|
        some ((y114.c1.set 0 (⟨(wI (((nth y114.c1 1).Now) + 1)), (nth y114.c1 0).Fine⟩ : CallT)), c115.2)))
      else
        some (y114.c1, c115.2)))
    else
      some (y114.c1, (⟨y114.b0_0, y114.b0_1, y114.b0_2⟩ : l1CurT)))))
  else
    ((loopF (spec_l1Cur_calls_o_L2) ⟨c104.1, c105.1, c107.2.code, c107.2.at_, c107.2.seed, []⟩).bind fun y122 =>
    (if (decide (((y122.c1.length : Nat) : Int) > 1)) = true then
      ((spec_l1Cur_one_o (⟨y122.b0_0, y122.b0_1, y122.b0_2⟩ : l1CurT) 30).bind fun c123 =>
      (if c123.1 = true then
        (guardO (1 < ((y122.c1.length : Nat) : Int)) <|
        (guardO (0 < ((y122.c1.length : Nat) : Int)) <|
        some ((y122.c1.set 0 (⟨(wI (((nth y122.c1 1).Now) + 1)), (nth y122.c1 0).Fine⟩ : CallT)), c123.2)))
      else
        some (y122.c1, c123.2)))
    else
      some (y122.c1, (⟨y122.b0_0, y122.b0_1, y122.b0_2⟩ : l1CurT))))))))
noncomputable def spec_DrawPlayBreaker (a0 : (List Int)) : Option (Int × Int × (List CallT)) :=
  ((spec_l1Cur_pick_o (⟨a0, 0, 0⟩ : l1CurT) 4).bind fun c102 =>
  ((spec_l1Cur_pick_o c102.2 30).bind fun c103 =>
  ((spec_l1Cur_calls_o c103.2).bind fun c125 =>
  some ((wI (1 + c102.1)), c103.1, c125.1))))
structure BreakerT where
  Limit : Int
  Cool : Int
  State : Int
  Fails : Int
  Opened : Int
  deriving DecidableEq, Inhabited
noncomputable def impl_isTime (a0 : Int) : Option Bool :=
  ((impl_in a0 0 1000000).bind fun c131 =>
  some c131)
noncomputable def impl_GoodBreaker (a0 : BreakerT) : Option Bool :=
  ((impl_in a0.Limit 1 20).bind fun c127 =>
  (if (!c127) = true then
    some false
  else
    ((impl_in a0.Cool 1 10000).bind fun c128 =>
    (if (!c128) = true then
      some false
    else
      ((impl_in a0.State 0 2).bind fun c129 =>
      (if (!c129) = true then
        some false
      else
        ((impl_in a0.Fails 0 a0.Limit).bind fun c130 =>
        (if (!c130) = true then
          some false
        else
          ((impl_isTime a0.Opened).bind fun c132 =>
          (if (!c132) = true then
            some false
          else
            (if (a0.State == 0) = true then
              (if (decide (a0.Fails < a0.Limit)) = true then
                some (a0.Opened == 0)
              else
                some false)
            else
              some (a0.Fails == a0.Limit))))))))))))
noncomputable def impl_NewBreaker (a0 : Int) (a1 : Int) : Option (BreakerT × Bool) :=
  ((impl_GoodBreaker (⟨a0, a1, 0, 0, 0⟩ : BreakerT)).bind fun c133 =>
  (if (!c133) = true then
    some ((⟨0, 0, 0, 0, 0⟩ : BreakerT), false)
  else
    some ((⟨a0, a1, 0, 0, 0⟩ : BreakerT), true)))
noncomputable def impl_Breaker_allows_r (a0 : BreakerT) (a1 : Int) : Option Bool :=
  (if (a0.State != 1) = true then
    some true
  else
    some (decide (a1 ≥ (wI (a0.Opened + a0.Cool)))))
noncomputable def impl_Breaker_call_o (a0 : BreakerT) (a1 : CallT) : Option (Bool × BreakerT) :=
  ((impl_Breaker_allows_r a0 a1.Now).bind fun c138 =>
  (if (!c138) = true then
    some (false, a0)
  else
    (if a1.Fine = true then
      some (true, (⟨a0.Limit, a0.Cool, 0, 0, 0⟩ : BreakerT))
    else
      (if (a0.State != 0) = true then
        some (true, (⟨a0.Limit, a0.Cool, 1, a0.Fails, a1.Now⟩ : BreakerT))
      else
        (if ((wI (a0.Fails + 1)) == a0.Limit) = true then
          some (true, (⟨a0.Limit, a0.Cool, 1, (wI (a0.Fails + 1)), a1.Now⟩ : BreakerT))
        else
          some (true, (⟨a0.Limit, a0.Cool, a0.State, (wI (a0.Fails + 1)), a0.Opened⟩ : BreakerT)))))))
structure impl_PlayBreaker_G1 where
  t31 : Int
  b1_0 : Int
  b1_1 : Int
  b1_2 : Int
  b1_3 : Int
  b1_4 : Int
  c2 : (List Bool)
structure impl_PlayBreaker_P1_1 where
  b1_0 : Int
  b1_1 : Int
  b1_2 : Int
  b1_3 : Int
  b1_4 : Int
  c2 : (List Bool)
noncomputable def impl_PlayBreaker_L1 (a2 : (List CallT)) (g135 : impl_PlayBreaker_G1) : Option (impl_PlayBreaker_G1 ⊕ (Unit ⊕ impl_PlayBreaker_P1_1)) :=
  (if (decide (g135.t31 < ((a2.length : Nat) : Int))) = true then
    (guardO (0 ≤ g135.t31 ∧ g135.t31 < (a2.length : Int)) <|
    ((impl_isTime ((nth a2 g135.t31.toNat).Now)).bind fun c140 =>
    (if (!c140) = true then
      some (.inr (.inl ()))
    else
      (if (decide (g135.t31 > 0)) = true then
        (guardO (0 ≤ (wI (g135.t31 - 1)) ∧ (wI (g135.t31 - 1)) < (a2.length : Int)) <|
        (if (decide (((nth a2 g135.t31.toNat).Now) < ((nth a2 ((wI (g135.t31 - 1)).toNat)).Now))) = true then
          some (.inr (.inl ()))
        else
          ((impl_Breaker_call_o (⟨g135.b1_0, g135.b1_1, g135.b1_2, g135.b1_3, g135.b1_4⟩ : BreakerT) (nth a2 g135.t31.toNat)).bind fun c141 =>
          (guardO ((g135.c2.length + 1) * 1 ≤ 140737488355328) <|
          some (.inl ⟨(wI (g135.t31 + 1)), c141.2.Limit, c141.2.Cool, c141.2.State, c141.2.Fails, c141.2.Opened, (g135.c2 ++ ([c141.1]))⟩)))))
      else
        ((impl_Breaker_call_o (⟨g135.b1_0, g135.b1_1, g135.b1_2, g135.b1_3, g135.b1_4⟩ : BreakerT) (nth a2 g135.t31.toNat)).bind fun c142 =>
        (guardO ((g135.c2.length + 1) * 1 ≤ 140737488355328) <|
        some (.inl ⟨(wI (g135.t31 + 1)), c142.2.Limit, c142.2.Cool, c142.2.State, c142.2.Fails, c142.2.Opened, (g135.c2 ++ ([c142.1]))⟩)))))))
  else
    some (.inr (.inr (⟨g135.b1_0, g135.b1_1, g135.b1_2, g135.b1_3, g135.b1_4, g135.c2⟩))))
noncomputable def impl_PlayBreaker (a0 : Int) (a1 : Int) (a2 : (List CallT)) : Option (BreakerT × (List Bool) × Bool) :=
  ((impl_NewBreaker a0 a1).bind fun c134 =>
  (if (!c134.2) = true then
    some ((⟨0, 0, 0, 0, 0⟩ : BreakerT), [], false)
  else
    (if (decide (((a2.length : Nat) : Int) > 120)) = true then
      some ((⟨0, 0, 0, 0, 0⟩ : BreakerT), [], false)
    else
      ((loopF (impl_PlayBreaker_L1 a2) ⟨0, c134.1.Limit, c134.1.Cool, c134.1.State, c134.1.Fails, c134.1.Opened, []⟩).bind fun y143 =>
      match y143 with
      | .inl p144 =>
        some ((⟨0, 0, 0, 0, 0⟩ : BreakerT), [], false)
      | .inr p145 =>
        some ((⟨p145.b1_0, p145.b1_1, p145.b1_2, p145.b1_3, p145.b1_4⟩ : BreakerT), p145.c2, true)))))
noncomputable def spec_NewBreaker (a0 : Int) (a1 : Int) : Option (BreakerT × Bool) :=
  ((spec_l1In a0 1 20).bind fun c147 =>
  (if (!c147) = true then
    some ((⟨0, 0, 0, 0, 0⟩ : BreakerT), false)
  else
    ((spec_l1In a1 1 10000).bind fun c148 =>
    (if (!c148) = true then
      some ((⟨0, 0, 0, 0, 0⟩ : BreakerT), false)
    else
      some ((⟨a0, a1, 0, 0, 0⟩ : BreakerT), true)))))
noncomputable def spec_l10Call (a0 : BreakerT) (a1 : CallT) : Option (BreakerT × Bool) :=
  (if (a0.State == 1) = true then
    (if (decide (a1.Now < (wI (a0.Opened + a0.Cool)))) = true then
      some (a0, false)
    else
      (if a1.Fine = true then
        some ((⟨a0.Limit, a0.Cool, 0, 0, 0⟩ : BreakerT), true)
      else
        (if (a0.State != 0) = true then
          some ((⟨a0.Limit, a0.Cool, 1, a0.Fails, a1.Now⟩ : BreakerT), true)
        else
          (if ((wI (a0.Fails + 1)) == a0.Limit) = true then
            some ((⟨a0.Limit, a0.Cool, 1, (wI (a0.Fails + 1)), a1.Now⟩ : BreakerT), true)
          else
            some ((⟨a0.Limit, a0.Cool, a0.State, (wI (a0.Fails + 1)), a0.Opened⟩ : BreakerT), true)))))
  else
    (if a1.Fine = true then
      some ((⟨a0.Limit, a0.Cool, 0, 0, 0⟩ : BreakerT), true)
    else
      (if (a0.State != 0) = true then
        some ((⟨a0.Limit, a0.Cool, 1, a0.Fails, a1.Now⟩ : BreakerT), true)
      else
        (if ((wI (a0.Fails + 1)) == a0.Limit) = true then
          some ((⟨a0.Limit, a0.Cool, 1, (wI (a0.Fails + 1)), a1.Now⟩ : BreakerT), true)
        else
          some ((⟨a0.Limit, a0.Cool, a0.State, (wI (a0.Fails + 1)), a0.Opened⟩ : BreakerT), true)))))
structure spec_PlayBreaker_G1 where
  t32 : Int
  b1_0 : Int
  b1_1 : Int
  b1_2 : Int
  b1_3 : Int
  b1_4 : Int
  c2 : (List Bool)
structure spec_PlayBreaker_P1_1 where
  b1_0 : Int
  b1_1 : Int
  b1_2 : Int
  b1_3 : Int
  b1_4 : Int
  c2 : (List Bool)
noncomputable def spec_PlayBreaker_L1 (a2 : (List CallT)) (g150 : spec_PlayBreaker_G1) : Option (spec_PlayBreaker_G1 ⊕ (Unit ⊕ spec_PlayBreaker_P1_1)) :=
  (if (decide (g150.t32 < ((a2.length : Nat) : Int))) = true then
    (guardO (0 ≤ g150.t32 ∧ g150.t32 < (a2.length : Int)) <|
    ((spec_l1In ((nth a2 g150.t32.toNat).Now) 0 1000000).bind fun c153 =>
    (if (!c153) = true then
      some (.inr (.inl ()))
    else
      (if (decide (g150.t32 > 0)) = true then
        (guardO (0 ≤ (wI (g150.t32 - 1)) ∧ (wI (g150.t32 - 1)) < (a2.length : Int)) <|
        (if (decide (((nth a2 ((wI (g150.t32 - 1)).toNat)).Now) > ((nth a2 g150.t32.toNat).Now))) = true then
          some (.inr (.inl ()))
        else
          ((spec_l10Call (⟨g150.b1_0, g150.b1_1, g150.b1_2, g150.b1_3, g150.b1_4⟩ : BreakerT) (nth a2 g150.t32.toNat)).bind fun c154 =>
          (guardO ((g150.c2.length + 1) * 1 ≤ 140737488355328) <|
          some (.inl ⟨(wI (g150.t32 + 1)), c154.1.Limit, c154.1.Cool, c154.1.State, c154.1.Fails, c154.1.Opened, (g150.c2 ++ ([c154.2]))⟩)))))
      else
        ((spec_l10Call (⟨g150.b1_0, g150.b1_1, g150.b1_2, g150.b1_3, g150.b1_4⟩ : BreakerT) (nth a2 g150.t32.toNat)).bind fun c155 =>
        (guardO ((g150.c2.length + 1) * 1 ≤ 140737488355328) <|
        some (.inl ⟨(wI (g150.t32 + 1)), c155.1.Limit, c155.1.Cool, c155.1.State, c155.1.Fails, c155.1.Opened, (g150.c2 ++ ([c155.2]))⟩)))))))
  else
    some (.inr (.inr (⟨g150.b1_0, g150.b1_1, g150.b1_2, g150.b1_3, g150.b1_4, g150.c2⟩))))
noncomputable def spec_PlayBreaker (a0 : Int) (a1 : Int) (a2 : (List CallT)) : Option (BreakerT × (List Bool) × Bool) :=
  ((spec_NewBreaker a0 a1).bind fun c149 =>
  (if (!c149.2) = true then
    some ((⟨0, 0, 0, 0, 0⟩ : BreakerT), [], false)
  else
    (if (decide (((a2.length : Nat) : Int) > 120)) = true then
      some ((⟨0, 0, 0, 0, 0⟩ : BreakerT), [], false)
    else
      ((loopF (spec_PlayBreaker_L1 a2) ⟨0, c149.1.Limit, c149.1.Cool, c149.1.State, c149.1.Fails, c149.1.Opened, []⟩).bind fun y156 =>
      match y156 with
      | .inl p157 =>
        some ((⟨0, 0, 0, 0, 0⟩ : BreakerT), [], false)
      | .inr p158 =>
        some ((⟨p158.b1_0, p158.b1_1, p158.b1_2, p158.b1_3, p158.b1_4⟩ : BreakerT), p158.c2, true)))))
structure laws_sameBools_G1 where
  t13 : Int
noncomputable def laws_sameBools_L1 (a0 : (List Bool)) (a1 : (List Bool)) (g160 : laws_sameBools_G1) : Option (laws_sameBools_G1 ⊕ (Unit ⊕ Unit)) :=
  (if (decide (g160.t13 < ((a0.length : Nat) : Int))) = true then
    (guardO (0 ≤ g160.t13 ∧ g160.t13 < (a0.length : Int)) <|
    (guardO (0 ≤ g160.t13 ∧ g160.t13 < (a1.length : Int)) <|
    (if (!((nth a0 g160.t13.toNat) == (nth a1 g160.t13.toNat))) = true then
      some (.inr (.inl ()))
    else
      some (.inl ⟨(wI (g160.t13 + 1))⟩))))
  else
    some (.inr (.inr ())))
noncomputable def laws_sameBools (a0 : (List Bool)) (a1 : (List Bool)) : Option Bool :=
  (if (((a0.length : Nat) : Int) != ((a1.length : Nat) : Int)) = true then
    some false
  else
    ((loopF (laws_sameBools_L1 a0 a1) ⟨0⟩).bind fun y161 =>
    match y161 with
    | .inl p162 =>
      some false
    | .inr p163 =>
      some true))
noncomputable def spec_l1Cur_breaker_o (a0 : l1CurT) : Option (BreakerT × l1CurT) :=
  ((spec_l1Cur_calls_o a0).bind fun c170 =>
  (if (decide (((c170.1.length : Nat) : Int) > 120)) = true then
    (guardO (0 ≤ 0 ∧ 0 ≤ 20 ∧ 20 ≤ ((c170.1.length : Nat) : Int)) <|
    ((spec_l1Cur_pick_o c170.2 4).bind fun c171 =>
    ((spec_l1Cur_pick_o c171.2 30).bind fun c172 =>
    ((spec_PlayBreaker (wI (1 + c171.1)) (wI (1 + c172.1)) (c170.1.take 20)).bind fun c173 =>
    (if (!c173.2.2) = true then
      ((spec_NewBreaker 2 5).bind fun c174 =>
      (if (c174.1.State == 1) = true then
        ((spec_l1Cur_one_o c172.2 6).bind fun c175 =>
        (if c175.1 = true then
          ((spec_l1Cur_one_o c175.2 30).bind fun c176 =>
          (if c176.1 = true then
            some ((⟨c174.1.Limit, c174.1.Cool, 2, (wI (c174.1.Fails + 1)), c174.1.Opened⟩ : BreakerT), c176.2)
          else
            some ((⟨c174.1.Limit, c174.1.Cool, 2, c174.1.Fails, c174.1.Opened⟩ : BreakerT), c176.2)))
        else
          ((spec_l1Cur_one_o c175.2 30).bind fun c177 =>
          (if c177.1 = true then
            some ((⟨c174.1.Limit, c174.1.Cool, c174.1.State, (wI (c174.1.Fails + 1)), c174.1.Opened⟩ : BreakerT), c177.2)
          else
            some (c174.1, c177.2)))))
      else
        ((spec_l1Cur_one_o c172.2 30).bind fun c178 =>
        (if c178.1 = true then
          some ((⟨c174.1.Limit, c174.1.Cool, c174.1.State, (wI (c174.1.Fails + 1)), c174.1.Opened⟩ : BreakerT), c178.2)
        else
          some (c174.1, c178.2)))))
    else
      (if (c173.1.State == 1) = true then
        ((spec_l1Cur_one_o c172.2 6).bind fun c179 =>
        (if c179.1 = true then
          ((spec_l1Cur_one_o c179.2 30).bind fun c180 =>
          (if c180.1 = true then
            some ((⟨c173.1.Limit, c173.1.Cool, 2, (wI (c173.1.Fails + 1)), c173.1.Opened⟩ : BreakerT), c180.2)
          else
            some ((⟨c173.1.Limit, c173.1.Cool, 2, c173.1.Fails, c173.1.Opened⟩ : BreakerT), c180.2)))
        else
          ((spec_l1Cur_one_o c179.2 30).bind fun c181 =>
          (if c181.1 = true then
            some ((⟨c173.1.Limit, c173.1.Cool, c173.1.State, (wI (c173.1.Fails + 1)), c173.1.Opened⟩ : BreakerT), c181.2)
          else
            some (c173.1, c181.2)))))
      else
        ((spec_l1Cur_one_o c172.2 30).bind fun c182 =>
        (if c182.1 = true then
          some ((⟨c173.1.Limit, c173.1.Cool, c173.1.State, (wI (c173.1.Fails + 1)), c173.1.Opened⟩ : BreakerT), c182.2)
        else
          some (c173.1, c182.2)))))))))
  else
    ((spec_l1Cur_pick_o c170.2 4).bind fun c183 =>
    ((spec_l1Cur_pick_o c183.2 30).bind fun c184 =>
    ((spec_PlayBreaker (wI (1 + c183.1)) (wI (1 + c184.1)) c170.1).bind fun c185 =>
    (if (!c185.2.2) = true then
      ((spec_NewBreaker 2 5).bind fun c186 =>
      (if (c186.1.State == 1) = true then
        ((spec_l1Cur_one_o c184.2 6).bind fun c187 =>
        (if c187.1 = true then
          ((spec_l1Cur_one_o c187.2 30).bind fun c188 =>
          (if c188.1 = true then
            some ((⟨c186.1.Limit, c186.1.Cool, 2, (wI (c186.1.Fails + 1)), c186.1.Opened⟩ : BreakerT), c188.2)
          else
            some ((⟨c186.1.Limit, c186.1.Cool, 2, c186.1.Fails, c186.1.Opened⟩ : BreakerT), c188.2)))
        else
          ((spec_l1Cur_one_o c187.2 30).bind fun c189 =>
          (if c189.1 = true then
            some ((⟨c186.1.Limit, c186.1.Cool, c186.1.State, (wI (c186.1.Fails + 1)), c186.1.Opened⟩ : BreakerT), c189.2)
          else
            some (c186.1, c189.2)))))
      else
        ((spec_l1Cur_one_o c184.2 30).bind fun c190 =>
        (if c190.1 = true then
          some ((⟨c186.1.Limit, c186.1.Cool, c186.1.State, (wI (c186.1.Fails + 1)), c186.1.Opened⟩ : BreakerT), c190.2)
        else
          some (c186.1, c190.2)))))
    else
      (if (c185.1.State == 1) = true then
        ((spec_l1Cur_one_o c184.2 6).bind fun c191 =>
        (if c191.1 = true then
          ((spec_l1Cur_one_o c191.2 30).bind fun c192 =>
          (if c192.1 = true then
            some ((⟨c185.1.Limit, c185.1.Cool, 2, (wI (c185.1.Fails + 1)), c185.1.Opened⟩ : BreakerT), c192.2)
          else
            some ((⟨c185.1.Limit, c185.1.Cool, 2, c185.1.Fails, c185.1.Opened⟩ : BreakerT), c192.2)))
        else
          ((spec_l1Cur_one_o c191.2 30).bind fun c193 =>
          (if c193.1 = true then
            some ((⟨c185.1.Limit, c185.1.Cool, c185.1.State, (wI (c185.1.Fails + 1)), c185.1.Opened⟩ : BreakerT), c193.2)
          else
            some (c185.1, c193.2)))))
      else
        ((spec_l1Cur_one_o c184.2 30).bind fun c194 =>
        (if c194.1 = true then
          some ((⟨c185.1.Limit, c185.1.Cool, c185.1.State, (wI (c185.1.Fails + 1)), c185.1.Opened⟩ : BreakerT), c194.2)
        else
          some (c185.1, c194.2))))))))))
noncomputable def spec_DrawCallBreaker (a0 : (List Int)) : Option (BreakerT × CallT) :=
  ((spec_l1Cur_breaker_o (⟨a0, 0, 0⟩ : l1CurT)).bind fun c195 =>
  ((spec_l1Cur_pick_o c195.2 60).bind fun c196 =>
  ((spec_l1Cur_pick_o c196.2 2).bind fun c197 =>
  ((spec_l1Cur_one_o c197.2 2).bind fun c198 =>
  some (c195.1, (⟨(wI ((wI (c195.1.Opened + c196.1)) - c197.1)), c198.1⟩ : CallT))))))
noncomputable def impl_CallBreaker (a0 : BreakerT) (a1 : CallT) : Option (BreakerT × Bool × Bool) :=
  ((impl_GoodBreaker a0).bind fun c200 =>
  (if (!c200) = true then
    some ((⟨0, 0, 0, 0, 0⟩ : BreakerT), false, false)
  else
    ((impl_isTime a1.Now).bind fun c201 =>
    (if (!c201) = true then
      some ((⟨0, 0, 0, 0, 0⟩ : BreakerT), false, false)
    else
      ((impl_Breaker_call_o a0 a1).bind fun c202 =>
      some (c202.2, c202.1, true))))))
noncomputable def spec_GoodBreaker (a0 : BreakerT) : Option Bool :=
  ((spec_l1In a0.Limit 1 20).bind fun c204 =>
  (if (!c204) = true then
    some false
  else
    ((spec_l1In a0.Cool 1 10000).bind fun c205 =>
    (if (!c205) = true then
      some false
    else
      ((spec_l1In a0.State 0 2).bind fun c206 =>
      (if (!c206) = true then
        some false
      else
        ((spec_l1In a0.Opened 0 1000000).bind fun c207 =>
        (if (!c207) = true then
          some false
        else
          (if (a0.State == 0) = true then
            ((spec_l1In a0.Fails 0 (wI (a0.Limit - 1))).bind fun c208 =>
            (if c208 = true then
              some (a0.Opened == 0)
            else
              some false))
          else
            some (a0.Fails == a0.Limit))))))))))
noncomputable def spec_CallBreaker (a0 : BreakerT) (a1 : CallT) : Option (BreakerT × Bool × Bool) :=
  ((spec_GoodBreaker a0).bind fun c209 =>
  (if (!c209) = true then
    some ((⟨0, 0, 0, 0, 0⟩ : BreakerT), false, false)
  else
    ((spec_l1In a1.Now 0 1000000).bind fun c210 =>
    (if (!c210) = true then
      some ((⟨0, 0, 0, 0, 0⟩ : BreakerT), false, false)
    else
      ((spec_l10Call a0 a1).bind fun c211 =>
      some (c211.1, c211.2, true))))))
noncomputable def impl_AllowsAt (a0 : BreakerT) (a1 : Int) : Option (Bool × Bool) :=
  ((impl_GoodBreaker a0).bind fun c213 =>
  (if (!c213) = true then
    some (false, false)
  else
    ((impl_isTime a1).bind fun c214 =>
    (if (!c214) = true then
      some (false, false)
    else
      ((impl_Breaker_allows_r a0 a1).bind fun c215 =>
      some (c215, true))))))
structure laws_FnBreaker_G1 where
  t14 : Int
  t15 : Int
  t74 : Int
structure laws_FnBreaker_P1_1 where
  t15 : Int
noncomputable def laws_FnBreaker_L1 (c126 : (Int × Int × (List CallT))) (c146 : (BreakerT × (List Bool) × Bool)) (g165 : laws_FnBreaker_G1) : Option (laws_FnBreaker_G1 ⊕ (Unit ⊕ laws_FnBreaker_P1_1)) :=
  (if (decide (g165.t74 < ((c126.2.2.length : Nat) : Int))) = true then
    (guardO (0 ≤ g165.t74 ∧ g165.t74 < ((c126.2.2.length : Nat) : Int)) <|
    (if (decide (g165.t15 < 0)) = true then
      (guardO (0 ≤ g165.t74 ∧ g165.t74 < ((c146.2.1.length : Nat) : Int)) <|
      (if (!((nth c146.2.1 g165.t74.toNat) == true)) = true then
        some (.inr (.inl ()))
      else
        (if (nth c126.2.2 g165.t74.toNat).Fine = true then
          some (.inl ⟨0, (-1), (wI (g165.t74 + 1))⟩)
        else
          (if (decide (g165.t15 ≥ 0)) = true then
            some (.inl ⟨c126.1, (nth c126.2.2 g165.t74.toNat).Now, (wI (g165.t74 + 1))⟩)
          else
            (if ((wI (g165.t14 + 1)) == c126.1) = true then
              some (.inl ⟨c126.1, (nth c126.2.2 g165.t74.toNat).Now, (wI (g165.t74 + 1))⟩)
            else
              some (.inl ⟨(wI (g165.t14 + 1)), g165.t15, (wI (g165.t74 + 1))⟩))))))
    else
      (guardO (0 ≤ g165.t74 ∧ g165.t74 < ((c146.2.1.length : Nat) : Int)) <|
      (if (!((nth c146.2.1 g165.t74.toNat) == (decide (((nth c126.2.2 g165.t74.toNat).Now) ≥ (wI (g165.t15 + c126.2.1)))))) = true then
        some (.inr (.inl ()))
      else
        (if (!(decide (((nth c126.2.2 g165.t74.toNat).Now) ≥ (wI (g165.t15 + c126.2.1))))) = true then
          some (.inl ⟨g165.t14, g165.t15, (wI (g165.t74 + 1))⟩)
        else
          (if (nth c126.2.2 g165.t74.toNat).Fine = true then
            some (.inl ⟨0, (-1), (wI (g165.t74 + 1))⟩)
          else
            (if (decide (g165.t15 ≥ 0)) = true then
              some (.inl ⟨c126.1, (nth c126.2.2 g165.t74.toNat).Now, (wI (g165.t74 + 1))⟩)
            else
              (if ((wI (g165.t14 + 1)) == c126.1) = true then
                some (.inl ⟨c126.1, (nth c126.2.2 g165.t74.toNat).Now, (wI (g165.t74 + 1))⟩)
              else
                some (.inl ⟨(wI (g165.t14 + 1)), g165.t15, (wI (g165.t74 + 1))⟩)))))))))
  else
    some (.inr (.inr (⟨g165.t15⟩))))
noncomputable def laws_FnBreaker (a0 : (List Int)) (a1 : (List Int)) : Option Bool :=
  (if (decide ((wI (((a0.length : Nat) : Int) + ((a1.length : Nat) : Int))) > 1048576)) = true then
    some true
  else
    ((spec_DrawPlayBreaker a0).bind fun c126 =>
    ((impl_PlayBreaker c126.1 c126.2.1 c126.2.2).bind fun c146 =>
    ((spec_PlayBreaker c126.1 c126.2.1 c126.2.2).bind fun c159 =>
    (if (!(c146.2.2 == c159.2.2)) = true then
      some false
    else
      (if (!((c146.1.Limit == c159.1.Limit) && ((c146.1.Cool == c159.1.Cool) && ((c146.1.State == c159.1.State) && ((c146.1.Fails == c159.1.Fails) && (c146.1.Opened == c159.1.Opened)))))) = true then
        some false
      else
        ((laws_sameBools c146.2.1 c159.2.1).bind fun c164 =>
        (if (!c164) = true then
          some false
        else
          (if c146.2.2 = true then
            ((loopF (laws_FnBreaker_L1 c126 c146) ⟨0, (-1), 0⟩).bind fun y166 =>
            match y166 with
            | .inl p167 =>
              some false
            | .inr p168 =>
              (if (!((c146.1.State == 1) == (decide (p168.t15 ≥ 0)))) = true then
                some false
              else
                ((impl_GoodBreaker c146.1).bind fun c169 =>
                (if (!c169) = true then
                  some false
                else
                  ((spec_DrawCallBreaker a1).bind fun c199 =>
                  ((impl_CallBreaker c199.1 c199.2).bind fun c203 =>
                  ((spec_CallBreaker c199.1 c199.2).bind fun c212 =>
                  ((impl_AllowsAt c199.1 c199.2.Now).bind fun c216 =>
                  (if (!(c203.2.2 == c212.2.2)) = true then
                    some false
                  else
                    (if (!((c203.1.Limit == c212.1.Limit) && ((c203.1.Cool == c212.1.Cool) && ((c203.1.State == c212.1.State) && ((c203.1.Fails == c212.1.Fails) && (c203.1.Opened == c212.1.Opened)))))) = true then
                      some false
                    else
                      (if (!(c203.2.1 == c212.2.1)) = true then
                        some false
                      else
                        (if (!(c216.2 == c212.2.2)) = true then
                          some false
                        else
                          (if (!c203.2.2) = true then
                            some true
                          else
                            (if (c203.2.1 == c216.1) = true then
                              ((impl_GoodBreaker c203.1).bind fun c217 =>
                              (if c217 = true then
                                (if c203.2.1 = true then
                                  some true
                                else
                                  some ((c203.1.Limit == c199.1.Limit) && ((c203.1.Cool == c199.1.Cool) && ((c203.1.State == c199.1.State) && ((c203.1.Fails == c199.1.Fails) && (c203.1.Opened == c199.1.Opened))))))
                              else
                                some false))
                            else
                              some false))))))))))))))
          else
            ((spec_DrawCallBreaker a1).bind fun c224 =>
            ((impl_CallBreaker c224.1 c224.2).bind fun c225 =>
            ((spec_CallBreaker c224.1 c224.2).bind fun c226 =>
            ((impl_AllowsAt c224.1 c224.2.Now).bind fun c227 =>
            (if (!(c225.2.2 == c226.2.2)) = true then
              some false
            else
              (if (!((c225.1.Limit == c226.1.Limit) && ((c225.1.Cool == c226.1.Cool) && ((c225.1.State == c226.1.State) && ((c225.1.Fails == c226.1.Fails) && (c225.1.Opened == c226.1.Opened)))))) = true then
                some false
              else
                (if (!(c225.2.1 == c226.2.1)) = true then
                  some false
                else
                  (if (!(c227.2 == c226.2.2)) = true then
                    some false
                  else
                    (if (!c225.2.2) = true then
                      some true
                    else
                      (if (c225.2.1 == c227.1) = true then
                        ((impl_GoodBreaker c225.1).bind fun c228 =>
                        (if c228 = true then
                          (if c225.2.1 = true then
                            some true
                          else
                            some ((c225.1.Limit == c224.1.Limit) && ((c225.1.Cool == c224.1.Cool) && ((c225.1.State == c224.1.State) && ((c225.1.Fails == c224.1.Fails) && (c225.1.Opened == c224.1.Opened))))))
                        else
                          some false))
                      else
                        some false)))))))))))))))))))
end Go.TL

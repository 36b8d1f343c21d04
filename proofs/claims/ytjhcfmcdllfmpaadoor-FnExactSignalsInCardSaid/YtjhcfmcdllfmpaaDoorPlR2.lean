import Derived.Test.YtjhcfmcdllfmpaaDoorPlR1
set_option linter.unusedSimpArgs false
set_option linter.unusedVariables false
namespace Go.TL
structure LineStepT where
  Kind : Int
  K : Int
  Text : ByteArray
  deriving DecidableEq, Inhabited
noncomputable def laws_szLineStep (a0 : LineStepT) (a1 : Int) : Option Int :=
  (if (decide ((wI (a1 - (a0.Text.size : Int))) < 0)) = true then
    some (-1)
  else
    some (wI (a1 - (a0.Text.size : Int))))
noncomputable def laws_toLineStep (a0 : LineStepT) : Option LineStepT :=
  some a0
noncomputable def spec_l14Own (a0 : QueueT) : Option QueueT :=
  (guardO (a0.Sent.length * 16 ≤ 140737488355328) <|
  (guardO (a0.Got.length * 16 ≤ 140737488355328) <|
  (guardO (a0.Line.length * 32 ≤ 140737488355328) <|
  some (⟨a0.Window, (([]) ++ a0.Sent), a0.Base, (([]) ++ a0.Got), (([]) ++ a0.Line)⟩ : QueueT))))
noncomputable def spec_l14Put_www (a0 : QueueT) (a1 : PacketT) : Option (QueueT × Bool) :=
  (if (((a0.Line.length : Nat) : Int) == 40) = true then
    some (a0, false)
  else
    (guardO ((a0.Line.length + 1) * 32 ≤ 140737488355328) <|
    some ((⟨a0.Window, a0.Sent, a0.Base, a0.Got, (a0.Line ++ ([a1]))⟩ : QueueT), true)))
noncomputable def spec_l14Without (a0 : (List PacketT)) (a1 : Int) : Option (List PacketT) :=
  (guardO (0 ≤ a1 ∧ a1 ≤ (a0.length : Int)) <|
  (guardO (((a0.take a1.toNat).length) * 32 ≤ 140737488355328) <|
  (guardO (0 ≤ (wI (a1 + 1)) ∧ (wI (a1 + 1)) ≤ (a0.length : Int)) <|
  (guardO (((a0.take a1.toNat).length + (a0.drop ((wI (a1 + 1)).toNat)).length) * 32 ≤ 140737488355328) <|
  some ((([]) ++ (a0.take a1.toNat)) ++ (a0.drop ((wI (a1 + 1)).toNat)))))))
structure spec_l14Step_www_J4003 where
  t20 : Bool
structure spec_l14Step_www_J4008 where
  t51 : Bool
structure spec_l14Step_www_J2091 where
  t91 : Bool
noncomputable def spec_l14Step_www (a0 : QueueT) (a1 : LineStepT) : Option (QueueT × Bool) :=
  (if (a1.Kind == 1) = true then
    (((if (((a0.Sent.length : Nat) : Int) == 40) = true then
        some (⟨true⟩ : spec_l14Step_www_J4003)
      else
        some (⟨(decide ((a1.Text.size : Int) > 12))⟩ : spec_l14Step_www_J4003)) : Option spec_l14Step_www_J4003).bind fun p72 =>
    (if p72.t20 = true then
      some (a0, false)
    else
      (guardO ((a0.Sent.length + 1) * 16 ≤ 140737488355328) <|
      some ((⟨a0.Window, (a0.Sent ++ ([a1.Text])), a0.Base, a0.Got, a0.Line⟩ : QueueT), true))))
  else
    (if (a1.Kind == 2) = true then
      ((((spec_l1In a1.K a0.Base (wI ((wI (a0.Base + a0.Window)) - 1))).bind fun c73 =>
        (if (!c73) = true then
          some (⟨true⟩ : spec_l14Step_www_J4008)
        else
          some (⟨(decide (a1.K ≥ ((a0.Sent.length : Nat) : Int)))⟩ : spec_l14Step_www_J4008))) : Option spec_l14Step_www_J4008).bind fun p74 =>
      (if p74.t51 = true then
        some (a0, false)
      else
        (guardO (0 ≤ a1.K ∧ a1.K < ((a0.Sent.length : Nat) : Int)) <|
        ((spec_l14Put_www a0 (⟨false, a1.K, (nth a0.Sent a1.K.toNat)⟩ : PacketT)).bind fun c75 =>
        some ((⟨c75.1.Window, a0.Sent, c75.1.Base, a0.Got, c75.1.Line⟩ : QueueT), c75.2)))))
    else
      ((spec_l1In a1.K 0 (wI (((a0.Line.length : Nat) : Int) - 1))).bind fun c76 =>
      (if (!c76) = true then
        some (a0, false)
      else
        (guardO (0 ≤ a1.K ∧ a1.K < ((a0.Line.length : Nat) : Int)) <|
        (if (a1.Kind == 5) = true then
          ((spec_l14Put_www a0 (nth a0.Line a1.K.toNat)).bind fun c77 =>
          some ((⟨c77.1.Window, a0.Sent, c77.1.Base, a0.Got, c77.1.Line⟩ : QueueT), c77.2))
        else
          (((if (a1.Kind == 3) = true then
              some (⟨true⟩ : spec_l14Step_www_J2091)
            else
              some (⟨(a1.Kind == 4)⟩ : spec_l14Step_www_J2091)) : Option spec_l14Step_www_J2091).bind fun p78 =>
          (if p78.t91 = true then
            ((spec_l14Without a0.Line a1.K).bind fun c79 =>
            (if (a1.Kind == 4) = true then
              some ((⟨a0.Window, a0.Sent, a0.Base, a0.Got, c79⟩ : QueueT), true)
            else
              (if (nth a0.Line a1.K.toNat).Ack = true then
                (if (decide (((nth a0.Line a1.K.toNat).No) > a0.Base)) = true then
                  some ((⟨a0.Window, a0.Sent, (nth a0.Line a1.K.toNat).No, a0.Got, c79⟩ : QueueT), true)
                else
                  some ((⟨a0.Window, a0.Sent, a0.Base, a0.Got, c79⟩ : QueueT), true))
              else
                (if (((nth a0.Line a1.K.toNat).No) == ((a0.Got.length : Nat) : Int)) = true then
                  (guardO ((a0.Got.length + 1) * 16 ≤ 140737488355328) <|
                  ((spec_l14Put_www (⟨a0.Window, a0.Sent, a0.Base, (a0.Got ++ ([(nth a0.Line a1.K.toNat).Text])), c79⟩ : QueueT) (⟨true, (((a0.Got.length + 1) : Nat) : Int), ByteArray.empty⟩ : PacketT)).bind fun c80 =>
                  some ((⟨c80.1.Window, a0.Sent, c80.1.Base, (a0.Got ++ ([(nth a0.Line a1.K.toNat).Text])), c80.1.Line⟩ : QueueT), true)))
                else
                  ((spec_l14Put_www (⟨a0.Window, a0.Sent, a0.Base, a0.Got, c79⟩ : QueueT) (⟨true, ((a0.Got.length : Nat) : Int), ByteArray.empty⟩ : PacketT)).bind fun c81 =>
                  some ((⟨c81.1.Window, a0.Sent, c81.1.Base, a0.Got, c81.1.Line⟩ : QueueT), true))))))
          else
            some (a0, false)))))))))
noncomputable def spec_StepQueue (a0 : QueueT) (a1 : LineStepT) : Option (QueueT × Bool) :=
  ((spec_GoodQueue a0).bind fun c60 =>
  (if (!c60) = true then
    some ((⟨0, [], 0, [], []⟩ : QueueT), false)
  else
    ((spec_l14Own a0).bind fun c61 =>
    ((spec_l14Step_www c61 a1).bind fun c82 =>
    (if (!c82.2) = true then
      some ((⟨0, [], 0, [], []⟩ : QueueT), false)
    else
      some (c82.1, true))))))
noncomputable def slices_Clone_string (a0 : (List ByteArray)) : Option (List ByteArray) :=
  guardO (a0.length * 16 ≤ 140737488355328) (some a0)
noncomputable def slices_Clone_impl_Packet (a0 : (List PacketT)) : Option (List PacketT) :=
  guardO (a0.length * 32 ≤ 140737488355328) (some a0)
noncomputable def impl_cloneQueue (a0 : QueueT) : Option QueueT :=
  ((slices_Clone_string a0.Sent).bind fun c115 =>
  ((slices_Clone_string a0.Got).bind fun c116 =>
  ((slices_Clone_impl_Packet a0.Line).bind fun c117 =>
  some (⟨a0.Window, c115, a0.Base, c116, c117⟩ : QueueT))))
noncomputable def impl_Queue_put_o (a0 : QueueT) (a1 : PacketT) : Option (Bool × QueueT) :=
  (if (((a0.Line.length : Nat) : Int) == 40) = true then
    some (false, a0)
  else
    (guardO ((a0.Line.length + 1) * 32 ≤ 140737488355328) <|
    some (true, (⟨a0.Window, a0.Sent, a0.Base, a0.Got, (a0.Line ++ ([a1]))⟩ : QueueT))))
noncomputable def impl_Queue_send_o (a0 : QueueT) (a1 : Int) : Option (Bool × QueueT) :=
  ((impl_in a1 a0.Base (wI ((min (wI (a0.Base + a0.Window)) ((a0.Sent.length : Nat) : Int)) - 1))).bind fun c120 =>
  (if c120 = true then
    (guardO (0 ≤ a1 ∧ a1 < ((a0.Sent.length : Nat) : Int)) <|
    ((impl_Queue_put_o a0 (⟨false, a1, (nth a0.Sent a1.toNat)⟩ : PacketT)).bind fun c121 =>
    some (c121.1, (⟨c121.2.Window, a0.Sent, c121.2.Base, a0.Got, c121.2.Line⟩ : QueueT))))
  else
    some (false, a0)))
noncomputable def slices_Delete_impl_Packet_w (a0 : (List PacketT)) (a1 : Int) (a2 : Int) : Option (List PacketT) :=
  guardO (0 ≤ a1 ∧ a1 ≤ a2 ∧ a2 ≤ (a0.length : Int) ∧ a0.length * 32 ≤ 140737488355328) (some (a0.take a1.toNat ++ a0.drop a2.toNat))
noncomputable def impl_Queue_take_o (a0 : QueueT) (a1 : Int) : Option QueueT :=
  (guardO (0 ≤ a1 ∧ a1 < ((a0.Line.length : Nat) : Int)) <|
  ((slices_Delete_impl_Packet_w a0.Line a1 (wI (a1 + 1))).bind fun c126 =>
  (if (nth a0.Line a1.toNat).Ack = true then
    some (⟨a0.Window, a0.Sent, (max a0.Base ((nth a0.Line a1.toNat).No)), a0.Got, c126⟩ : QueueT)
  else
    (if (((nth a0.Line a1.toNat).No) == ((a0.Got.length : Nat) : Int)) = true then
      (guardO ((a0.Got.length + 1) * 16 ≤ 140737488355328) <|
      ((impl_Queue_put_o (⟨a0.Window, a0.Sent, a0.Base, (a0.Got ++ ([(nth a0.Line a1.toNat).Text])), c126⟩ : QueueT) (⟨true, (((a0.Got.length + 1) : Nat) : Int), ByteArray.empty⟩ : PacketT)).bind fun c127 =>
      some (⟨c127.2.Window, a0.Sent, c127.2.Base, (a0.Got ++ ([(nth a0.Line a1.toNat).Text])), c127.2.Line⟩ : QueueT)))
    else
      ((impl_Queue_put_o (⟨a0.Window, a0.Sent, a0.Base, a0.Got, c126⟩ : QueueT) (⟨true, ((a0.Got.length : Nat) : Int), ByteArray.empty⟩ : PacketT)).bind fun c128 =>
      some (⟨c128.2.Window, a0.Sent, c128.2.Base, a0.Got, c128.2.Line⟩ : QueueT))))))
structure impl_Queue_step_o_J4003 where
  t20 : Bool
structure impl_Queue_step_o_J4009 where
  t53 : Bool
noncomputable def impl_Queue_step_o (a0 : QueueT) (a1 : LineStepT) : Option (Bool × QueueT) :=
  (if (a1.Kind == 1) = true then
    (((if (((a0.Sent.length : Nat) : Int) == 40) = true then
        some (⟨true⟩ : impl_Queue_step_o_J4003)
      else
        some (⟨(decide ((a1.Text.size : Int) > 12))⟩ : impl_Queue_step_o_J4003)) : Option impl_Queue_step_o_J4003).bind fun p119 =>
    (if p119.t20 = true then
      some (false, a0)
    else
      (guardO ((a0.Sent.length + 1) * 16 ≤ 140737488355328) <|
      some (true, (⟨a0.Window, (a0.Sent ++ ([a1.Text])), a0.Base, a0.Got, a0.Line⟩ : QueueT)))))
  else
    (if (a1.Kind == 2) = true then
      ((impl_Queue_send_o a0 a1.K).bind fun c122 =>
      some (c122.1, (⟨c122.2.Window, a0.Sent, c122.2.Base, a0.Got, c122.2.Line⟩ : QueueT)))
    else
      ((((impl_in a1.Kind 3 5).bind fun c123 =>
        (if (!c123) = true then
          some (⟨true⟩ : impl_Queue_step_o_J4009)
        else
          ((impl_in a1.K 0 (wI (((a0.Line.length : Nat) : Int) - 1))).bind fun c124 =>
          some (⟨(!c124)⟩ : impl_Queue_step_o_J4009)))) : Option impl_Queue_step_o_J4009).bind fun p125 =>
      (if p125.t53 = true then
        some (false, a0)
      else
        (if (a1.Kind == 3) = true then
          ((impl_Queue_take_o a0 a1.K).bind fun c129 =>
          some (true, (⟨c129.Window, a0.Sent, c129.Base, c129.Got, c129.Line⟩ : QueueT)))
        else
          (if (a1.Kind == 4) = true then
            ((slices_Delete_impl_Packet_w a0.Line a1.K (wI (a1.K + 1))).bind fun c130 =>
            some (true, (⟨a0.Window, a0.Sent, a0.Base, a0.Got, c130⟩ : QueueT)))
          else
            (guardO (0 ≤ a1.K ∧ a1.K < ((a0.Line.length : Nat) : Int)) <|
            ((impl_Queue_put_o a0 (nth a0.Line a1.K.toNat)).bind fun c131 =>
            some (c131.1, (⟨c131.2.Window, a0.Sent, c131.2.Base, a0.Got, c131.2.Line⟩ : QueueT))))))))))
noncomputable def impl_StepQueue (a0 : QueueT) (a1 : LineStepT) : Option (QueueT × Bool) :=
  ((impl_GoodQueue a0).bind fun c114 =>
  (if (!c114) = true then
    some ((⟨0, [], 0, [], []⟩ : QueueT), false)
  else
    ((impl_cloneQueue a0).bind fun c118 =>
    ((impl_Queue_step_o c118 a1).bind fun c132 =>
    (if (!c132.1) = true then
      some ((⟨0, [], 0, [], []⟩ : QueueT), false)
    else
      some (c132.2, true))))))
structure laws_markText_G1 where
  t0 : Int
  t3 : ByteArray
structure laws_markText_P1_0 where
  t3 : ByteArray
noncomputable def laws_markText_L1 (g152 : laws_markText_G1) : Option (laws_markText_G1 ⊕ laws_markText_P1_0) :=
  (if (decide (g152.t0 > 0)) = true then
    (guardO ((bstr ([(wB (wI (48 + (g152.t0.tmod 10))))])).size + g152.t3.size ≤ 9223372036854775807) <|
    some (.inl ⟨(wI (g152.t0.tdiv 10)), ((bstr ([(wB (wI (48 + (g152.t0.tmod 10))))])) ++ g152.t3)⟩))
  else
    some (.inr (⟨g152.t3⟩)))
noncomputable def laws_markText (a0 : Int) : Option ByteArray :=
  (if (decide (a0 ≤ 0)) = true then
    some (⟨#[109, 48]⟩ : ByteArray)
  else
    ((loopF (laws_markText_L1) ⟨a0, ByteArray.empty⟩).bind fun y153 =>
    (guardO ((⟨#[109]⟩ : ByteArray).size + y153.t3.size ≤ 9223372036854775807) <|
    some ((⟨#[109]⟩ : ByteArray) ++ y153.t3))))
structure laws_markStringS_w_G1 where
  t1 : Int
  t5 : Int
  c0 : (List ByteArray)
structure laws_markStringS_w_P1_0 where
  t1 : Int
  c0 : (List ByteArray)
noncomputable def laws_markStringS_w_L1 (g155 : laws_markStringS_w_G1) : Option (laws_markStringS_w_G1 ⊕ laws_markStringS_w_P1_0) :=
  (if (decide (g155.t5 < ((g155.c0.length : Nat) : Int))) = true then
    ((laws_markText g155.t1).bind fun c157 =>
    (guardO (0 ≤ g155.t5 ∧ g155.t5 < ((g155.c0.length : Nat) : Int)) <|
    some (.inl ⟨(wI (g155.t1 + 1)), (wI (g155.t5 + 1)), (g155.c0.set g155.t5.toNat c157)⟩)))
  else
    some (.inr (⟨g155.t1, g155.c0⟩)))
noncomputable def laws_markStringS_w (a0 : (List ByteArray)) (a1 : Int) : Option (Int × (List ByteArray)) :=
  ((loopF (laws_markStringS_w_L1) ⟨a1, 0, a0⟩).bind fun y158 =>
  some (y158.t1, y158.c0))
structure laws_markPacketS_w_G1 where
  t1 : Int
  t5 : Int
  c0 : (List PacketT)
structure laws_markPacketS_w_P1_0 where
  t1 : Int
  c0 : (List PacketT)
noncomputable def laws_markPacketS_w_L1 (g162 : laws_markPacketS_w_G1) : Option (laws_markPacketS_w_G1 ⊕ laws_markPacketS_w_P1_0) :=
  (if (decide (g162.t5 < ((g162.c0.length : Nat) : Int))) = true then
    (guardO (0 ≤ g162.t5 ∧ g162.t5 < ((g162.c0.length : Nat) : Int)) <|
    (guardO (0 ≤ g162.t5 ∧ g162.t5 < ((g162.c0.length : Nat) : Int)) <|
    ((laws_markText (wI ((wI (g162.t1 + 1)) + 1))).bind fun c164 =>
    (guardO (0 ≤ g162.t5 ∧ g162.t5 < ((g162.c0.length : Nat) : Int)) <|
    some (.inl ⟨(wI ((wI ((wI (g162.t1 + 1)) + 1)) + 1)), (wI (g162.t5 + 1)), (((g162.c0.set g162.t5.toNat (⟨((g162.t1.tmod 3) == 0), (nth g162.c0 g162.t5.toNat).No, (nth g162.c0 g162.t5.toNat).Text⟩ : PacketT)).set g162.t5.toNat (⟨(nth (g162.c0.set g162.t5.toNat (⟨((g162.t1.tmod 3) == 0), (nth g162.c0 g162.t5.toNat).No, (nth g162.c0 g162.t5.toNat).Text⟩ : PacketT)) g162.t5.toNat).Ack, (wI (g162.t1 + 1)), (nth (g162.c0.set g162.t5.toNat (⟨((g162.t1.tmod 3) == 0), (nth g162.c0 g162.t5.toNat).No, (nth g162.c0 g162.t5.toNat).Text⟩ : PacketT)) g162.t5.toNat).Text⟩ : PacketT)).set g162.t5.toNat (⟨(nth ((g162.c0.set g162.t5.toNat (⟨((g162.t1.tmod 3) == 0), (nth g162.c0 g162.t5.toNat).No, (nth g162.c0 g162.t5.toNat).Text⟩ : PacketT)).set g162.t5.toNat (⟨(nth (g162.c0.set g162.t5.toNat (⟨((g162.t1.tmod 3) == 0), (nth g162.c0 g162.t5.toNat).No, (nth g162.c0 g162.t5.toNat).Text⟩ : PacketT)) g162.t5.toNat).Ack, (wI (g162.t1 + 1)), (nth (g162.c0.set g162.t5.toNat (⟨((g162.t1.tmod 3) == 0), (nth g162.c0 g162.t5.toNat).No, (nth g162.c0 g162.t5.toNat).Text⟩ : PacketT)) g162.t5.toNat).Text⟩ : PacketT)) g162.t5.toNat).Ack, (nth ((g162.c0.set g162.t5.toNat (⟨((g162.t1.tmod 3) == 0), (nth g162.c0 g162.t5.toNat).No, (nth g162.c0 g162.t5.toNat).Text⟩ : PacketT)).set g162.t5.toNat (⟨(nth (g162.c0.set g162.t5.toNat (⟨((g162.t1.tmod 3) == 0), (nth g162.c0 g162.t5.toNat).No, (nth g162.c0 g162.t5.toNat).Text⟩ : PacketT)) g162.t5.toNat).Ack, (wI (g162.t1 + 1)), (nth (g162.c0.set g162.t5.toNat (⟨((g162.t1.tmod 3) == 0), (nth g162.c0 g162.t5.toNat).No, (nth g162.c0 g162.t5.toNat).Text⟩ : PacketT)) g162.t5.toNat).Text⟩ : PacketT)) g162.t5.toNat).No, c164⟩ : PacketT))⟩)))))
  else
    some (.inr (⟨g162.t1, g162.c0⟩)))
noncomputable def laws_markPacketS_w (a0 : (List PacketT)) (a1 : Int) : Option (Int × (List PacketT)) :=
  ((loopF (laws_markPacketS_w_L1) ⟨a1, 0, a0⟩).bind fun y165 =>
  some (y165.t1, y165.c0))
noncomputable def laws_markQueue_www (a0 : QueueT) (a1 : Int) : Option (Int × (List ByteArray) × (List ByteArray) × (List PacketT)) :=
  ((laws_markStringS_w a0.Sent a1).bind fun c159 =>
  (guardO (c159.2.length = a0.Sent.length) <|
  ((laws_markStringS_w a0.Got c159.1).bind fun c160 =>
  (guardO (c160.2.length = a0.Got.length) <|
  ((laws_markPacketS_w a0.Line c160.1).bind fun c166 =>
  (guardO (c166.2.length = a0.Line.length) <|
  some (c166.1, c159.2, c160.2, c166.2)))))))
structure laws_heldStringS_G1 where
  t1 : Int
  t5 : Int
structure laws_heldStringS_P1_1 where
  t1 : Int
noncomputable def laws_heldStringS_L1 (a0 : (List ByteArray)) (g171 : laws_heldStringS_G1) : Option (laws_heldStringS_G1 ⊕ (Unit ⊕ laws_heldStringS_P1_1)) :=
  (if (decide (g171.t5 < ((a0.length : Nat) : Int))) = true then
    (guardO (0 ≤ g171.t5 ∧ g171.t5 < (a0.length : Int)) <|
    ((laws_markText g171.t1).bind fun c173 =>
    (if (!((nth a0 g171.t5.toNat).toList == c173.toList)) = true then
      some (.inr (.inl ()))
    else
      some (.inl ⟨(wI (g171.t1 + 1)), (wI (g171.t5 + 1))⟩))))
  else
    some (.inr (.inr (⟨g171.t1⟩))))
noncomputable def laws_heldStringS (a0 : (List ByteArray)) (a1 : Int) : Option Int :=
  ((loopF (laws_heldStringS_L1 a0) ⟨a1, 0⟩).bind fun y174 =>
  match y174 with
  | .inl p175 =>
    some (-1)
  | .inr p176 =>
    some p176.t1)
structure laws_heldPacketS_G1 where
  t1 : Int
  t5 : Int
structure laws_heldPacketS_P1_1 where
  t1 : Int
noncomputable def laws_heldPacketS_L1 (a0 : (List PacketT)) (g179 : laws_heldPacketS_G1) : Option (laws_heldPacketS_G1 ⊕ (Unit ⊕ laws_heldPacketS_P1_1)) :=
  (if (decide (g179.t5 < ((a0.length : Nat) : Int))) = true then
    (guardO (0 ≤ g179.t5 ∧ g179.t5 < (a0.length : Int)) <|
    (if (!(((nth a0 g179.t5.toNat).Ack) == ((g179.t1.tmod 3) == 0))) = true then
      some (.inr (.inl ()))
    else
      (guardO (0 ≤ g179.t5 ∧ g179.t5 < (a0.length : Int)) <|
      (if (((nth a0 g179.t5.toNat).No) != (wI (g179.t1 + 1))) = true then
        some (.inr (.inl ()))
      else
        (guardO (0 ≤ g179.t5 ∧ g179.t5 < (a0.length : Int)) <|
        ((laws_markText (wI ((wI (g179.t1 + 1)) + 1))).bind fun c181 =>
        (if (!(((nth a0 g179.t5.toNat).Text).toList == c181.toList)) = true then
          some (.inr (.inl ()))
        else
          some (.inl ⟨(wI ((wI ((wI (g179.t1 + 1)) + 1)) + 1)), (wI (g179.t5 + 1))⟩))))))))
  else
    some (.inr (.inr (⟨g179.t1⟩))))
noncomputable def laws_heldPacketS (a0 : (List PacketT)) (a1 : Int) : Option Int :=
  ((loopF (laws_heldPacketS_L1 a0) ⟨a1, 0⟩).bind fun y182 =>
  match y182 with
  | .inl p183 =>
    some (-1)
  | .inr p184 =>
    some p184.t1)
noncomputable def laws_heldQueue (a0 : QueueT) (a1 : Int) : Option Int :=
  ((laws_heldStringS a0.Sent a1).bind fun c177 =>
  (if (decide (c177 < 0)) = true then
    some (-1)
  else
    ((laws_heldStringS a0.Got c177).bind fun c178 =>
    (if (decide (c178 < 0)) = true then
      some (-1)
    else
      ((laws_heldPacketS a0.Line c178).bind fun c185 =>
      (if (decide (c185 < 0)) = true then
        some (-1)
      else
        some c185))))))
structure laws_FnExactStepQueue_J4011 where
  t51 : Bool
structure laws_FnExactStepQueue_J4017 where
  t72 : Bool
structure laws_FnExactStepQueue_J4028 where
  t100 : Bool
noncomputable def laws_FnExactStepQueue (a0 : QueueT) (a1 : LineStepT) : Option Bool :=
  ((laws_szQueue a0 1048576).bind fun c14 =>
  (if (decide (c14 < 0)) = true then
    some true
  else
    ((laws_szLineStep a1 c14).bind fun c15 =>
    (if (decide (c15 < 0)) = true then
      some true
    else
      ((laws_toQueue a0).bind fun c25 =>
      ((laws_toLineStep a1).bind fun c26 =>
      ((spec_StepQueue c25 c26).bind fun c83 =>
      ((laws_toQueue a0).bind fun c84 =>
      ((laws_toLineStep a1).bind fun c85 =>
      ((impl_StepQueue c84 c85).bind fun c133 =>
      ((((laws_eqQueue c133.1 c83.1).bind fun c147 =>
        (if (!c147) = true then
          some (⟨true⟩ : laws_FnExactStepQueue_J4011)
        else
          some (⟨(!(c133.2 == c83.2))⟩ : laws_FnExactStepQueue_J4011))) : Option laws_FnExactStepQueue_J4011).bind fun p148 =>
      (if p148.t51 = true then
        some false
      else
        ((laws_toQueue a0).bind fun c149 =>
        ((laws_eqQueue c84 c149).bind fun c150 =>
        (if (!c150) = true then
          some false
        else
          ((laws_markQueue_www c84 1).bind fun c167 =>
          (guardO (c167.2.1.length = c84.Sent.length) <|
          (guardO (c167.2.2.1.length = c84.Got.length) <|
          (guardO (c167.2.2.2.length = c84.Line.length) <|
          (((if (decide (c167.1 < 0)) = true then
              some (⟨true⟩ : laws_FnExactStepQueue_J4017)
            else
              ((laws_eqQueue c133.1 c83.1).bind fun c168 =>
              (if (!c168) = true then
                some (⟨true⟩ : laws_FnExactStepQueue_J4017)
              else
                some (⟨(!(c133.2 == c83.2))⟩ : laws_FnExactStepQueue_J4017)))) : Option laws_FnExactStepQueue_J4017).bind fun p169 =>
          (if p169.t72 = true then
            some false
          else
            ((laws_markQueue_www c133.1 1).bind fun c170 =>
            (guardO (c170.2.1.length = c133.1.Sent.length) <|
            (guardO (c170.2.2.1.length = c133.1.Got.length) <|
            (guardO (c170.2.2.2.length = c133.1.Line.length) <|
            ((laws_heldQueue (⟨c133.1.Window, c170.2.1, c133.1.Base, c170.2.2.1, c170.2.2.2⟩ : QueueT) 1).bind fun c186 =>
            (if (decide (c186 < 0)) = true then
              some false
            else
              (if (c186 != c170.1) = true then
                some false
              else
                ((laws_toQueue a0).bind fun c187 =>
                ((laws_toLineStep a1).bind fun c188 =>
                ((impl_StepQueue c187 c188).bind fun c189 =>
                ((((laws_eqQueue c189.1 c83.1).bind fun c190 =>
                  (if (!c190) = true then
                    some (⟨true⟩ : laws_FnExactStepQueue_J4028)
                  else
                    some (⟨(!(c189.2 == c83.2))⟩ : laws_FnExactStepQueue_J4028))) : Option laws_FnExactStepQueue_J4028).bind fun p191 =>
                (if p191.t100 = true then
                  some false
                else
                  ((laws_heldQueue (⟨c133.1.Window, c170.2.1, c133.1.Base, c170.2.2.1, c170.2.2.2⟩ : QueueT) 1).bind fun c192 =>
                  (if (decide (c192 < 0)) = true then
                    some false
                  else
                    (if (c192 != c170.1) = true then
                      some false
                    else
                      some true))))))))))))))))))))))))))))))))))))
structure laws_szLineStepS_G1 where
  t1 : Int
  t5 : Int
structure laws_szLineStepS_P1_1 where
  t1 : Int
noncomputable def laws_szLineStepS_L1 (a0 : (List LineStepT)) (g193 : laws_szLineStepS_G1) : Option (laws_szLineStepS_G1 ⊕ (Unit ⊕ laws_szLineStepS_P1_1)) :=
  (if (decide (g193.t5 < ((a0.length : Nat) : Int))) = true then
    (guardO (0 ≤ g193.t5 ∧ g193.t5 < (a0.length : Int)) <|
    ((laws_szLineStep (nth a0 g193.t5.toNat) g193.t1).bind fun c195 =>
    (if (decide (c195 < 0)) = true then
      some (.inr (.inl ()))
    else
      some (.inl ⟨c195, (wI (g193.t5 + 1))⟩))))
  else
    some (.inr (.inr (⟨g193.t1⟩))))
noncomputable def laws_szLineStepS (a0 : (List LineStepT)) (a1 : Int) : Option Int :=
  (if (decide ((wI (a1 - ((a0.length : Nat) : Int))) < 0)) = true then
    some (-1)
  else
    ((loopF (laws_szLineStepS_L1 a0) ⟨(wI (a1 - ((a0.length : Nat) : Int))), 0⟩).bind fun y196 =>
    match y196 with
    | .inl p197 =>
      some (-1)
    | .inr p198 =>
      some p198.t1))
structure laws_toLineStepS_G1 where
  t4 : Int
  c0 : (List LineStepT)
structure laws_toLineStepS_P1_0 where
  c0 : (List LineStepT)
noncomputable def laws_toLineStepS_L1 (a0 : (List LineStepT)) (g200 : laws_toLineStepS_G1) : Option (laws_toLineStepS_G1 ⊕ laws_toLineStepS_P1_0) :=
  (if (decide (g200.t4 < ((a0.length : Nat) : Int))) = true then
    (guardO (0 ≤ g200.t4 ∧ g200.t4 < (a0.length : Int)) <|
    ((laws_toLineStep (nth a0 g200.t4.toNat)).bind fun c202 =>
    (guardO (0 ≤ g200.t4 ∧ g200.t4 < ((g200.c0.length : Nat) : Int)) <|
    some (.inl ⟨(wI (g200.t4 + 1)), (g200.c0.set g200.t4.toNat c202)⟩))))
  else
    some (.inr (⟨g200.c0⟩)))
noncomputable def laws_toLineStepS (a0 : (List LineStepT)) : Option (List LineStepT) :=
  (guardO (0 ≤ ((a0.length : Nat) : Int) ∧ ((a0.length : Nat) : Int) * 32 ≤ 281474976710656 ∧ ((a0.length : Nat) : Int) ≤ 9223372036854775807) <|
  ((loopF (laws_toLineStepS_L1 a0) ⟨0, (List.replicate a0.length (⟨0, 0, ByteArray.empty⟩ : LineStepT))⟩).bind fun y203 =>
  some y203.c0))
noncomputable def spec_NewQueue (a0 : Int) : Option (QueueT × Bool) :=
  ((spec_l1In a0 1 10).bind fun c205 =>
  (if (!c205) = true then
    some ((⟨0, [], 0, [], []⟩ : QueueT), false)
  else
    some ((⟨a0, [], 0, [], []⟩ : QueueT), true)))
structure spec_PlayQueue_J4002 where
  t25 : Bool
structure spec_PlayQueue_G1 where
  t29 : Int
  b1_0 : Int
  b1_2 : Int
  c2 : (List Bool)
  c3 : (List ByteArray)
  c4 : (List ByteArray)
  c5 : (List PacketT)
structure spec_PlayQueue_P1_0 where
  b1_0 : Int
  b1_2 : Int
  c2 : (List Bool)
  c3 : (List ByteArray)
  c4 : (List ByteArray)
  c5 : (List PacketT)
noncomputable def spec_PlayQueue_L1 (a1 : (List LineStepT)) (g208 : spec_PlayQueue_G1) : Option (spec_PlayQueue_G1 ⊕ spec_PlayQueue_P1_0) :=
  (if (decide (g208.t29 < ((a1.length : Nat) : Int))) = true then
    (guardO (0 ≤ g208.t29 ∧ g208.t29 < (a1.length : Int)) <|
    ((spec_l14Own (⟨g208.b1_0, g208.c3, g208.b1_2, g208.c4, g208.c5⟩ : QueueT)).bind fun c211 =>
    ((spec_l14Step_www c211 (nth a1 g208.t29.toNat)).bind fun c212 =>
    (if c212.2 = true then
      (guardO ((g208.c2.length + 1) * 1 ≤ 140737488355328) <|
      some (.inl ⟨(wI (g208.t29 + 1)), c212.1.Window, c212.1.Base, (g208.c2 ++ ([c212.2])), c212.1.Sent, c212.1.Got, c212.1.Line⟩))
    else
      (guardO ((g208.c2.length + 1) * 1 ≤ 140737488355328) <|
      some (.inl ⟨(wI (g208.t29 + 1)), g208.b1_0, g208.b1_2, (g208.c2 ++ ([c212.2])), g208.c3, g208.c4, g208.c5⟩))))))
  else
    some (.inr (⟨g208.b1_0, g208.b1_2, g208.c2, g208.c3, g208.c4, g208.c5⟩)))
noncomputable def spec_PlayQueue (a0 : Int) (a1 : (List LineStepT)) : Option (QueueT × (List Bool) × Bool) :=
  ((spec_NewQueue a0).bind fun c206 =>
  (((if (!c206.2) = true then
      some (⟨true⟩ : spec_PlayQueue_J4002)
    else
      some (⟨(decide (((a1.length : Nat) : Int) > 200))⟩ : spec_PlayQueue_J4002)) : Option spec_PlayQueue_J4002).bind fun p207 =>
  (if p207.t25 = true then
    some ((⟨0, [], 0, [], []⟩ : QueueT), [], false)
  else
    ((loopF (spec_PlayQueue_L1 a1) ⟨0, c206.1.Window, c206.1.Base, [], [], [], []⟩).bind fun y213 =>
    ((spec_l14Own (⟨y213.b1_0, y213.c3, y213.b1_2, y213.c4, y213.c5⟩ : QueueT)).bind fun c214 =>
    some (c214, y213.c2, true))))))
noncomputable def impl_NewQueue (a0 : Int) : Option (QueueT × Bool) :=
  ((impl_in a0 1 10).bind fun c218 =>
  (if (!c218) = true then
    some ((⟨0, [], 0, [], []⟩ : QueueT), false)
  else
    some ((⟨a0, [], 0, [], []⟩ : QueueT), true)))
structure impl_PlayQueue_J4002 where
  t23 : Bool
structure impl_PlayQueue_G1 where
  t28 : Int
  b1_0 : Int
  b1_2 : Int
  c2 : (List Bool)
  c3 : (List ByteArray)
  c4 : (List ByteArray)
  c5 : (List PacketT)
structure impl_PlayQueue_P1_0 where
  b1_0 : Int
  b1_2 : Int
  c2 : (List Bool)
  c3 : (List ByteArray)
  c4 : (List ByteArray)
  c5 : (List PacketT)
noncomputable def impl_PlayQueue_L1 (a1 : (List LineStepT)) (g221 : impl_PlayQueue_G1) : Option (impl_PlayQueue_G1 ⊕ impl_PlayQueue_P1_0) :=
  (if (decide (g221.t28 < ((a1.length : Nat) : Int))) = true then
    (guardO (0 ≤ g221.t28 ∧ g221.t28 < (a1.length : Int)) <|
    ((impl_Queue_step_o (⟨g221.b1_0, g221.c3, g221.b1_2, g221.c4, g221.c5⟩ : QueueT) (nth a1 g221.t28.toNat)).bind fun c256 =>
    (guardO ((g221.c2.length + 1) * 1 ≤ 140737488355328) <|
    some (.inl ⟨(wI (g221.t28 + 1)), c256.2.Window, c256.2.Base, (g221.c2 ++ ([c256.1])), c256.2.Sent, c256.2.Got, c256.2.Line⟩))))
  else
    some (.inr (⟨g221.b1_0, g221.b1_2, g221.c2, g221.c3, g221.c4, g221.c5⟩)))
noncomputable def impl_PlayQueue (a0 : Int) (a1 : (List LineStepT)) : Option (QueueT × (List Bool) × Bool) :=
  ((impl_NewQueue a0).bind fun c219 =>
  (((if (!c219.2) = true then
      some (⟨true⟩ : impl_PlayQueue_J4002)
    else
      some (⟨(decide (((a1.length : Nat) : Int) > 200))⟩ : impl_PlayQueue_J4002)) : Option impl_PlayQueue_J4002).bind fun p220 =>
  (if p220.t23 = true then
    some ((⟨0, [], 0, [], []⟩ : QueueT), [], false)
  else
    ((loopF (impl_PlayQueue_L1 a1) ⟨0, c219.1.Window, c219.1.Base, [], [], [], []⟩).bind fun y257 =>
    some ((⟨y257.b1_0, y257.c3, y257.b1_2, y257.c4, y257.c5⟩ : QueueT), y257.c2, true)))))
structure laws_eqBoolS_G1 where
  t5 : Int
noncomputable def laws_eqBoolS_L1 (a0 : (List Bool)) (a1 : (List Bool)) (g260 : laws_eqBoolS_G1) : Option (laws_eqBoolS_G1 ⊕ (Unit ⊕ Unit)) :=
  (if (decide (g260.t5 < ((a0.length : Nat) : Int))) = true then
    (guardO (0 ≤ g260.t5 ∧ g260.t5 < (a0.length : Int)) <|
    (guardO (0 ≤ g260.t5 ∧ g260.t5 < (a1.length : Int)) <|
    (if (!((nth a0 g260.t5.toNat) == (nth a1 g260.t5.toNat))) = true then
      some (.inr (.inl ()))
    else
      some (.inl ⟨(wI (g260.t5 + 1))⟩))))
  else
    some (.inr (.inr ())))
noncomputable def laws_eqBoolS (a0 : (List Bool)) (a1 : (List Bool)) : Option Bool :=
  (if (((a0.length : Nat) : Int) != ((a1.length : Nat) : Int)) = true then
    some false
  else
    ((loopF (laws_eqBoolS_L1 a0 a1) ⟨0⟩).bind fun y261 =>
    match y261 with
    | .inl p262 =>
      some false
    | .inr p263 =>
      some true))
noncomputable def laws_eqLineStep (a0 : LineStepT) (a1 : LineStepT) : Option Bool :=
  (if (a0.Kind != a1.Kind) = true then
    some false
  else
    (if (a0.K != a1.K) = true then
      some false
    else
      (if (!(a0.Text.toList == a1.Text.toList)) = true then
        some false
      else
        some true)))
structure laws_eqLineStepS_G1 where
  t5 : Int
noncomputable def laws_eqLineStepS_L1 (a0 : (List LineStepT)) (a1 : (List LineStepT)) (g267 : laws_eqLineStepS_G1) : Option (laws_eqLineStepS_G1 ⊕ (Unit ⊕ Unit)) :=
  (if (decide (g267.t5 < ((a0.length : Nat) : Int))) = true then
    (guardO (0 ≤ g267.t5 ∧ g267.t5 < (a0.length : Int)) <|
    (guardO (0 ≤ g267.t5 ∧ g267.t5 < (a1.length : Int)) <|
    ((laws_eqLineStep (nth a0 g267.t5.toNat) (nth a1 g267.t5.toNat)).bind fun c269 =>
    (if (!c269) = true then
      some (.inr (.inl ()))
    else
      some (.inl ⟨(wI (g267.t5 + 1))⟩)))))
  else
    some (.inr (.inr ())))
noncomputable def laws_eqLineStepS (a0 : (List LineStepT)) (a1 : (List LineStepT)) : Option Bool :=
  (if (((a0.length : Nat) : Int) != ((a1.length : Nat) : Int)) = true then
    some false
  else
    ((loopF (laws_eqLineStepS_L1 a0 a1) ⟨0⟩).bind fun y270 =>
    match y270 with
    | .inl p271 =>
      some false
    | .inr p272 =>
      some true))
structure laws_markLineStepS_w_G1 where
  t1 : Int
  t5 : Int
  c0 : (List LineStepT)
structure laws_markLineStepS_w_P1_0 where
  t1 : Int
  c0 : (List LineStepT)
noncomputable def laws_markLineStepS_w_L1 (g275 : laws_markLineStepS_w_G1) : Option (laws_markLineStepS_w_G1 ⊕ laws_markLineStepS_w_P1_0) :=
  (if (decide (g275.t5 < ((g275.c0.length : Nat) : Int))) = true then
    (guardO (0 ≤ g275.t5 ∧ g275.t5 < ((g275.c0.length : Nat) : Int)) <|
    (guardO (0 ≤ g275.t5 ∧ g275.t5 < ((g275.c0.length : Nat) : Int)) <|
    ((laws_markText (wI ((wI (g275.t1 + 1)) + 1))).bind fun c277 =>
    (guardO (0 ≤ g275.t5 ∧ g275.t5 < ((g275.c0.length : Nat) : Int)) <|
    some (.inl ⟨(wI ((wI ((wI (g275.t1 + 1)) + 1)) + 1)), (wI (g275.t5 + 1)), (((g275.c0.set g275.t5.toNat (⟨g275.t1, (nth g275.c0 g275.t5.toNat).K, (nth g275.c0 g275.t5.toNat).Text⟩ : LineStepT)).set g275.t5.toNat (⟨(nth (g275.c0.set g275.t5.toNat (⟨g275.t1, (nth g275.c0 g275.t5.toNat).K, (nth g275.c0 g275.t5.toNat).Text⟩ : LineStepT)) g275.t5.toNat).Kind, (wI (g275.t1 + 1)), (nth (g275.c0.set g275.t5.toNat (⟨g275.t1, (nth g275.c0 g275.t5.toNat).K, (nth g275.c0 g275.t5.toNat).Text⟩ : LineStepT)) g275.t5.toNat).Text⟩ : LineStepT)).set g275.t5.toNat (⟨(nth ((g275.c0.set g275.t5.toNat (⟨g275.t1, (nth g275.c0 g275.t5.toNat).K, (nth g275.c0 g275.t5.toNat).Text⟩ : LineStepT)).set g275.t5.toNat (⟨(nth (g275.c0.set g275.t5.toNat (⟨g275.t1, (nth g275.c0 g275.t5.toNat).K, (nth g275.c0 g275.t5.toNat).Text⟩ : LineStepT)) g275.t5.toNat).Kind, (wI (g275.t1 + 1)), (nth (g275.c0.set g275.t5.toNat (⟨g275.t1, (nth g275.c0 g275.t5.toNat).K, (nth g275.c0 g275.t5.toNat).Text⟩ : LineStepT)) g275.t5.toNat).Text⟩ : LineStepT)) g275.t5.toNat).Kind, (nth ((g275.c0.set g275.t5.toNat (⟨g275.t1, (nth g275.c0 g275.t5.toNat).K, (nth g275.c0 g275.t5.toNat).Text⟩ : LineStepT)).set g275.t5.toNat (⟨(nth (g275.c0.set g275.t5.toNat (⟨g275.t1, (nth g275.c0 g275.t5.toNat).K, (nth g275.c0 g275.t5.toNat).Text⟩ : LineStepT)) g275.t5.toNat).Kind, (wI (g275.t1 + 1)), (nth (g275.c0.set g275.t5.toNat (⟨g275.t1, (nth g275.c0 g275.t5.toNat).K, (nth g275.c0 g275.t5.toNat).Text⟩ : LineStepT)) g275.t5.toNat).Text⟩ : LineStepT)) g275.t5.toNat).K, c277⟩ : LineStepT))⟩)))))
  else
    some (.inr (⟨g275.t1, g275.c0⟩)))
noncomputable def laws_markLineStepS_w (a0 : (List LineStepT)) (a1 : Int) : Option (Int × (List LineStepT)) :=
  ((loopF (laws_markLineStepS_w_L1) ⟨a1, 0, a0⟩).bind fun y278 =>
  some (y278.t1, y278.c0))
structure laws_markBoolS_w_G1 where
  t1 : Int
  t5 : Int
  c0 : (List Bool)
structure laws_markBoolS_w_P1_0 where
  t1 : Int
  c0 : (List Bool)
noncomputable def laws_markBoolS_w_L1 (g285 : laws_markBoolS_w_G1) : Option (laws_markBoolS_w_G1 ⊕ laws_markBoolS_w_P1_0) :=
  (if (decide (g285.t5 < ((g285.c0.length : Nat) : Int))) = true then
    (guardO (0 ≤ g285.t5 ∧ g285.t5 < ((g285.c0.length : Nat) : Int)) <|
    some (.inl ⟨(wI (g285.t1 + 1)), (wI (g285.t5 + 1)), (g285.c0.set g285.t5.toNat ((g285.t1.tmod 3) == 0))⟩))
  else
    some (.inr (⟨g285.t1, g285.c0⟩)))
noncomputable def laws_markBoolS_w (a0 : (List Bool)) (a1 : Int) : Option (Int × (List Bool)) :=
  ((loopF (laws_markBoolS_w_L1) ⟨a1, 0, a0⟩).bind fun y286 =>
  some (y286.t1, y286.c0))
structure laws_heldBoolS_G1 where
  t1 : Int
  t5 : Int
structure laws_heldBoolS_P1_1 where
  t1 : Int
noncomputable def laws_heldBoolS_L1 (a0 : (List Bool)) (g289 : laws_heldBoolS_G1) : Option (laws_heldBoolS_G1 ⊕ (Unit ⊕ laws_heldBoolS_P1_1)) :=
  (if (decide (g289.t5 < ((a0.length : Nat) : Int))) = true then
    (guardO (0 ≤ g289.t5 ∧ g289.t5 < (a0.length : Int)) <|
    (if (!((nth a0 g289.t5.toNat) == ((g289.t1.tmod 3) == 0))) = true then
      some (.inr (.inl ()))
    else
      some (.inl ⟨(wI (g289.t1 + 1)), (wI (g289.t5 + 1))⟩)))
  else
    some (.inr (.inr (⟨g289.t1⟩))))
noncomputable def laws_heldBoolS (a0 : (List Bool)) (a1 : Int) : Option Int :=
  ((loopF (laws_heldBoolS_L1 a0) ⟨a1, 0⟩).bind fun y290 =>
  match y290 with
  | .inl p291 =>
    some (-1)
  | .inr p292 =>
    some p292.t1)
structure laws_FnExactPlayQueue_J4008 where
  t55 : Bool
structure laws_FnExactPlayQueue_J4014 where
  t82 : Bool
structure laws_FnExactPlayQueue_J4029 where
  t124 : Bool
noncomputable def laws_FnExactPlayQueue (a0 : Int) (a1 : (List LineStepT)) : Option Bool :=
  ((laws_szLineStepS a1 1048576).bind fun c199 =>
  (if (decide (c199 < 0)) = true then
    some true
  else
    ((laws_toLineStepS a1).bind fun c204 =>
    ((spec_PlayQueue a0 c204).bind fun c216 =>
    ((laws_toLineStepS a1).bind fun c217 =>
    ((impl_PlayQueue a0 c217).bind fun c258 =>
    ((((laws_eqQueue c258.1 c216.1).bind fun c259 =>
      (if (!c259) = true then
        some (⟨true⟩ : laws_FnExactPlayQueue_J4008)
      else
        ((laws_eqBoolS c258.2.1 c216.2.1).bind fun c264 =>
        (if (!c264) = true then
          some (⟨true⟩ : laws_FnExactPlayQueue_J4008)
        else
          some (⟨(!(c258.2.2 == c216.2.2))⟩ : laws_FnExactPlayQueue_J4008))))) : Option laws_FnExactPlayQueue_J4008).bind fun p265 =>
    (if p265.t55 = true then
      some false
    else
      ((laws_toLineStepS a1).bind fun c266 =>
      ((laws_eqLineStepS c217 c266).bind fun c273 =>
      (if (!c273) = true then
        some false
      else
        ((laws_markLineStepS_w c217 1).bind fun c279 =>
        (guardO (c279.2.length = c217.length) <|
        (((if (decide (c279.1 < 0)) = true then
            some (⟨true⟩ : laws_FnExactPlayQueue_J4014)
          else
            ((laws_eqQueue c258.1 c216.1).bind fun c280 =>
            (if (!c280) = true then
              some (⟨true⟩ : laws_FnExactPlayQueue_J4014)
            else
              ((laws_eqBoolS c258.2.1 c216.2.1).bind fun c281 =>
              (if (!c281) = true then
                some (⟨true⟩ : laws_FnExactPlayQueue_J4014)
              else
                some (⟨(!(c258.2.2 == c216.2.2))⟩ : laws_FnExactPlayQueue_J4014)))))) : Option laws_FnExactPlayQueue_J4014).bind fun p282 =>
        (if p282.t82 = true then
          some false
        else
          ((laws_markQueue_www c258.1 1).bind fun c283 =>
          (guardO (c283.2.1.length = c258.1.Sent.length) <|
          (guardO (c283.2.2.1.length = c258.1.Got.length) <|
          (guardO (c283.2.2.2.length = c258.1.Line.length) <|
          ((laws_markBoolS_w c258.2.1 c283.1).bind fun c287 =>
          (guardO (c287.2.length = c258.2.1.length) <|
          ((laws_heldQueue (⟨c258.1.Window, c283.2.1, c258.1.Base, c283.2.2.1, c283.2.2.2⟩ : QueueT) 1).bind fun c288 =>
          (if (decide (c288 < 0)) = true then
            some false
          else
            ((laws_heldBoolS c287.2 c288).bind fun c293 =>
            (if (decide (c293 < 0)) = true then
              some false
            else
              (if (c293 != c287.1) = true then
                some false
              else
                ((laws_toLineStepS a1).bind fun c294 =>
                ((impl_PlayQueue a0 c294).bind fun c295 =>
                ((((laws_eqQueue c295.1 c216.1).bind fun c296 =>
                  (if (!c296) = true then
                    some (⟨true⟩ : laws_FnExactPlayQueue_J4029)
                  else
                    ((laws_eqBoolS c295.2.1 c216.2.1).bind fun c297 =>
                    (if (!c297) = true then
                      some (⟨true⟩ : laws_FnExactPlayQueue_J4029)
                    else
                      some (⟨(!(c295.2.2 == c216.2.2))⟩ : laws_FnExactPlayQueue_J4029))))) : Option laws_FnExactPlayQueue_J4029).bind fun p298 =>
                (if p298.t124 = true then
                  some false
                else
                  ((laws_heldQueue (⟨c258.1.Window, c283.2.1, c258.1.Base, c283.2.2.1, c283.2.2.2⟩ : QueueT) 1).bind fun c299 =>
                  (if (decide (c299 < 0)) = true then
                    some false
                  else
                    ((laws_heldBoolS c287.2 c299).bind fun c300 =>
                    (if (decide (c300 < 0)) = true then
                      some false
                    else
                      (if (c300 != c287.1) = true then
                        some false
                      else
                        some true)))))))))))))))))))))))))))))))))))
noncomputable def spec_l1Cur_among_ow (a0 : l1CurT) (a1 : (List Int)) : Option (Int × l1CurT) :=
  ((spec_l1Cur_pick_o a0 ((a1.length : Nat) : Int)).bind fun c312 =>
  (guardO (0 ≤ c312.1 ∧ c312.1 < ((a1.length : Nat) : Int)) <|
  some ((nth a1 c312.1.toNat), c312.2)))
noncomputable def spec_l1Cur_of_ow (a0 : l1CurT) (a1 : (List ByteArray)) : Option (ByteArray × l1CurT) :=
  ((spec_l1Cur_pick_o a0 ((a1.length : Nat) : Int)).bind fun c315 =>
  (guardO (0 ≤ c315.1 ∧ c315.1 < ((a1.length : Nat) : Int)) <|
  some ((nth a1 c315.1.toNat), c315.2)))
structure spec_l1Cur_lineSteps_o_J2010 where
  t4 : Int
  b0_0 : (List Int)
  b0_1 : Int
  b0_2 : Int
structure spec_l1Cur_lineSteps_o_G1 where
  t4 : Int
  t5 : Int
  b0_0 : (List Int)
  b0_1 : Int
  b0_2 : Int
  c1 : (List LineStepT)
structure spec_l1Cur_lineSteps_o_P1_0 where
  b0_0 : (List Int)
  b0_1 : Int
  b0_2 : Int
  c1 : (List LineStepT)
structure spec_l1Cur_lineSteps_o_J12026 where
  t5 : Int
  b0_0 : (List Int)
  b0_1 : Int
  b0_2 : Int
  b2_1 : Int
  b2_2 : ByteArray
structure spec_l1Cur_lineSteps_o_J12036 where
  b0_0 : (List Int)
  b0_1 : Int
  b0_2 : Int
  b2_1 : Int
noncomputable def spec_l1Cur_lineSteps_o_L1 (g311 : spec_l1Cur_lineSteps_o_G1) : Option (spec_l1Cur_lineSteps_o_G1 ⊕ spec_l1Cur_lineSteps_o_P1_0) :=
  (if (decide (g311.t4 > 0)) = true then
    ((spec_l1Cur_among_ow (⟨g311.b0_0, g311.b0_1, g311.b0_2⟩ : l1CurT) ([1, 2, 2, 3, 3, 3, 4, 5])).bind fun c322 =>
    ((spec_l1Cur_pick_o c322.2 5).bind fun c323 =>
    (((if (c322.1 == 1) = true then
        ((spec_l1Cur_of_ow c323.2 ([(⟨#[97]⟩ : ByteArray), (⟨#[98]⟩ : ByteArray), (⟨#[116, 101, 120, 116]⟩ : ByteArray), ByteArray.empty])).bind fun c324 =>
        some (⟨(wI (g311.t5 + 1)), c324.2.code, c324.2.at_, c324.2.seed, 0, c324.1⟩ : spec_l1Cur_lineSteps_o_J12026))
      else
        some (⟨g311.t5, c323.2.code, c323.2.at_, c323.2.seed, c323.1, ByteArray.empty⟩ : spec_l1Cur_lineSteps_o_J12026)) : Option spec_l1Cur_lineSteps_o_J12026).bind fun p325 =>
    (((if (c322.1 == 2) = true then
        ((spec_l1Cur_pick_o (⟨p325.b0_0, p325.b0_1, p325.b0_2⟩ : l1CurT) (wI (p325.t5 + 2))).bind fun c326 =>
        some (⟨c326.2.code, c326.2.at_, c326.2.seed, c326.1⟩ : spec_l1Cur_lineSteps_o_J12036))
      else
        some (⟨p325.b0_0, p325.b0_1, p325.b0_2, p325.b2_1⟩ : spec_l1Cur_lineSteps_o_J12036)) : Option spec_l1Cur_lineSteps_o_J12036).bind fun p327 =>
    ((spec_l1Cur_one_o (⟨p327.b0_0, p327.b0_1, p327.b0_2⟩ : l1CurT) 60).bind fun c328 =>
    (if c328.1 = true then
      ((spec_l1Cur_pick_o c328.2 8).bind fun c329 =>
      (guardO ((g311.c1.length + 1) * 32 ≤ 140737488355328) <|
      some (.inl ⟨(wI (g311.t4 - 1)), p325.t5, c329.2.code, c329.2.at_, c329.2.seed, (g311.c1 ++ ([(⟨c329.1, (wI (p327.b2_1 - 2)), p325.b2_2⟩ : LineStepT)]))⟩)))
    else
      (guardO ((g311.c1.length + 1) * 32 ≤ 140737488355328) <|
      some (.inl ⟨(wI (g311.t4 - 1)), p325.t5, c328.2.code, c328.2.at_, c328.2.seed, (g311.c1 ++ ([(⟨c322.1, p327.b2_1, p325.b2_2⟩ : LineStepT)]))⟩))))))))
  else
    some (.inr (⟨g311.b0_0, g311.b0_1, g311.b0_2, g311.c1⟩)))
noncomputable def spec_l1Cur_lineSteps_o (a0 : l1CurT) : Option ((List LineStepT) × l1CurT) :=
  ((spec_l1Cur_pick_o a0 40).bind fun c306 =>
  ((((spec_l1Cur_one_o c306.2 12).bind fun c308 =>
    (if c308.1 = true then
      ((spec_l1Cur_pick_o c308.2 22).bind fun c309 =>
      some (⟨(wI (180 + c309.1)), c309.2.code, c309.2.at_, c309.2.seed⟩ : spec_l1Cur_lineSteps_o_J2010))
    else
      some (⟨c306.1, c308.2.code, c308.2.at_, c308.2.seed⟩ : spec_l1Cur_lineSteps_o_J2010))) : Option spec_l1Cur_lineSteps_o_J2010).bind fun p310 =>
  ((loopF (spec_l1Cur_lineSteps_o_L1) ⟨p310.t4, 0, p310.b0_0, p310.b0_1, p310.b0_2, []⟩).bind fun y330 =>
  some (y330.c1, (⟨y330.b0_0, y330.b0_1, y330.b0_2⟩ : l1CurT)))))
noncomputable def spec_DrawPlayQueue (a0 : (List Int)) : Option (Int × (List LineStepT)) :=
  ((spec_l1Cur_pick_o (⟨a0, 0, 0⟩ : l1CurT) 4).bind fun c305 =>
  ((spec_l1Cur_lineSteps_o c305.2).bind fun c331 =>
  some ((wI (1 + c305.1)), c331.1)))
structure laws_sameTexts_G1 where
  t13 : Int
noncomputable def laws_sameTexts_L1 (a0 : (List ByteArray)) (a1 : (List ByteArray)) (g340 : laws_sameTexts_G1) : Option (laws_sameTexts_G1 ⊕ (Unit ⊕ Unit)) :=
  (if (decide (g340.t13 < ((a0.length : Nat) : Int))) = true then
    (guardO (0 ≤ g340.t13 ∧ g340.t13 < (a0.length : Int)) <|
    (guardO (0 ≤ g340.t13 ∧ g340.t13 < (a1.length : Int)) <|
    (if (!((nth a0 g340.t13.toNat).toList == (nth a1 g340.t13.toNat).toList)) = true then
      some (.inr (.inl ()))
    else
      some (.inl ⟨(wI (g340.t13 + 1))⟩))))
  else
    some (.inr (.inr ())))
noncomputable def laws_sameTexts (a0 : (List ByteArray)) (a1 : (List ByteArray)) : Option Bool :=
  (if (((a0.length : Nat) : Int) != ((a1.length : Nat) : Int)) = true then
    some false
  else
    ((loopF (laws_sameTexts_L1 a0 a1) ⟨0⟩).bind fun y341 =>
    match y341 with
    | .inl p342 =>
      some false
    | .inr p343 =>
      some true))
structure laws_samePackets_G1 where
  t13 : Int
noncomputable def laws_samePackets_L1 (a0 : (List PacketT)) (a1 : (List PacketT)) (g345 : laws_samePackets_G1) : Option (laws_samePackets_G1 ⊕ (Unit ⊕ Unit)) :=
  (if (decide (g345.t13 < ((a0.length : Nat) : Int))) = true then
    (guardO (0 ≤ g345.t13 ∧ g345.t13 < (a0.length : Int)) <|
    (guardO (0 ≤ g345.t13 ∧ g345.t13 < (a1.length : Int)) <|
    (if (!((((nth a0 g345.t13.toNat).Ack) == ((nth a1 g345.t13.toNat).Ack)) && ((((nth a0 g345.t13.toNat).No) == ((nth a1 g345.t13.toNat).No)) && (((nth a0 g345.t13.toNat).Text).toList == ((nth a1 g345.t13.toNat).Text).toList)))) = true then
      some (.inr (.inl ()))
    else
      some (.inl ⟨(wI (g345.t13 + 1))⟩))))
  else
    some (.inr (.inr ())))
noncomputable def laws_samePackets (a0 : (List PacketT)) (a1 : (List PacketT)) : Option Bool :=
  (if (((a0.length : Nat) : Int) != ((a1.length : Nat) : Int)) = true then
    some false
  else
    ((loopF (laws_samePackets_L1 a0 a1) ⟨0⟩).bind fun y346 =>
    match y346 with
    | .inl p347 =>
      some false
    | .inr p348 =>
      some true))
noncomputable def spec_l1Cur_queue_o (a0 : l1CurT) : Option (QueueT × l1CurT) :=
  ((spec_l1Cur_lineSteps_o a0).bind fun c369 =>
  (if (decide (((c369.1.length : Nat) : Int) > 200)) = true then
    (guardO (0 ≤ 0 ∧ 0 ≤ 60 ∧ 60 ≤ ((c369.1.length : Nat) : Int)) <|
    ((spec_l1Cur_pick_o c369.2 4).bind fun c370 =>
    ((spec_PlayQueue (wI (1 + c370.1)) (c369.1.take 60)).bind fun c371 =>
    ((spec_l1Cur_pick_o c370.2 40).bind fun c372 =>
    (if (c372.1 == 0) = true then
      ((spec_l1Cur_pick_o c372.2 3).bind fun c373 =>
      some ((⟨c371.1.Window, c371.1.Sent, (wI (c371.1.Base + (wI (c373.1 - 1)))), c371.1.Got, c371.1.Line⟩ : QueueT), c373.2))
    else
      (if (c372.1 == 1) = true then
        (guardO ((c371.1.Got.length + 1) * 16 ≤ 140737488355328) <|
        some ((⟨c371.1.Window, c371.1.Sent, c371.1.Base, (c371.1.Got ++ ([(⟨#[122]⟩ : ByteArray)])), c371.1.Line⟩ : QueueT), c372.2))
      else
        (if (c372.1 == 2) = true then
          ((spec_l1Cur_pick_o c372.2 9).bind fun c374 =>
          ((spec_l1Cur_one_o c374.2 2).bind fun c375 =>
          (guardO ((c371.1.Line.length + 1) * 32 ≤ 140737488355328) <|
          some ((⟨c371.1.Window, c371.1.Sent, c371.1.Base, c371.1.Got, (c371.1.Line ++ ([(⟨c375.1, c374.1, ByteArray.empty⟩ : PacketT)]))⟩ : QueueT), c375.2))))
        else
          some (c371.1, c372.2))))))))
  else
    ((spec_l1Cur_pick_o c369.2 4).bind fun c376 =>
    ((spec_PlayQueue (wI (1 + c376.1)) c369.1).bind fun c377 =>
    ((spec_l1Cur_pick_o c376.2 40).bind fun c378 =>
    (if (c378.1 == 0) = true then
      ((spec_l1Cur_pick_o c378.2 3).bind fun c379 =>
      some ((⟨c377.1.Window, c377.1.Sent, (wI (c377.1.Base + (wI (c379.1 - 1)))), c377.1.Got, c377.1.Line⟩ : QueueT), c379.2))
    else
      (if (c378.1 == 1) = true then
        (guardO ((c377.1.Got.length + 1) * 16 ≤ 140737488355328) <|
        some ((⟨c377.1.Window, c377.1.Sent, c377.1.Base, (c377.1.Got ++ ([(⟨#[122]⟩ : ByteArray)])), c377.1.Line⟩ : QueueT), c378.2))
      else
        (if (c378.1 == 2) = true then
          ((spec_l1Cur_pick_o c378.2 9).bind fun c380 =>
          ((spec_l1Cur_one_o c380.2 2).bind fun c381 =>
          (guardO ((c377.1.Line.length + 1) * 32 ≤ 140737488355328) <|
          some ((⟨c377.1.Window, c377.1.Sent, c377.1.Base, c377.1.Got, (c377.1.Line ++ ([(⟨c381.1, c380.1, ByteArray.empty⟩ : PacketT)]))⟩ : QueueT), c381.2))))
        else
          some (c377.1, c378.2)))))))))
noncomputable def spec_DrawStepQueue (a0 : (List Int)) : Option (QueueT × LineStepT) :=
  ((spec_l1Cur_queue_o (⟨a0, 0, 0⟩ : l1CurT)).bind fun c382 =>
  ((spec_l1Cur_pick_o c382.2 5).bind fun c383 =>
  ((spec_l1Cur_pick_o c383.2 (wI (((c382.1.Line.length : Nat) : Int) + 1))).bind fun c384 =>
  (if ((wI (1 + c383.1)) == 2) = true then
    ((spec_l1Cur_pick_o c384.2 4).bind fun c385 =>
    some (c382.1, (⟨(wI (1 + c383.1)), (wI (c382.1.Base + c385.1)), ByteArray.empty⟩ : LineStepT)))
  else
    some (c382.1, (⟨(wI (1 + c383.1)), c384.1, ByteArray.empty⟩ : LineStepT))))))
structure laws_FnQueue_J4006 where
  t80 : Bool
structure laws_FnQueue_G1 where
  t84 : Int
  c2 : (List ByteArray)
structure laws_FnQueue_P1_0 where
  c1 : (List ByteArray)
structure laws_FnQueue_J14013 where
  t97 : Bool
noncomputable def laws_FnQueue_L1 (c332 : (Int × (List LineStepT))) (c333 : (QueueT × (List Bool) × Bool)) (g351 : laws_FnQueue_G1) : Option (laws_FnQueue_G1 ⊕ laws_FnQueue_P1_0) :=
  (if (decide (g351.t84 < ((c332.2.length : Nat) : Int))) = true then
    (guardO (0 ≤ g351.t84 ∧ g351.t84 < ((c332.2.length : Nat) : Int)) <|
    (((guardO (0 ≤ g351.t84 ∧ g351.t84 < ((c333.2.1.length : Nat) : Int)) <|
      (if (nth c333.2.1 g351.t84.toNat) = true then
        some (⟨(((nth c332.2 g351.t84.toNat).Kind) == 1)⟩ : laws_FnQueue_J14013)
      else
        some (⟨false⟩ : laws_FnQueue_J14013))) : Option laws_FnQueue_J14013).bind fun p353 =>
    (if p353.t97 = true then
      (guardO ((g351.c2.length + 1) * 16 ≤ 140737488355328) <|
      some (.inl ⟨(wI (g351.t84 + 1)), (g351.c2 ++ ([(nth c332.2 g351.t84.toNat).Text]))⟩))
    else
      some (.inl ⟨(wI (g351.t84 + 1)), g351.c2⟩))))
  else
    some (.inr (⟨g351.c2⟩)))
structure laws_FnQueue_J4017 where
  t159 : Bool
structure laws_FnQueue_J4022 where
  t195 : Bool
noncomputable def laws_FnQueue (a0 : (List Int)) (a1 : (List Int)) : Option Bool :=
  (if (decide ((wI (((a0.length : Nat) : Int) + ((a1.length : Nat) : Int))) > 1048576)) = true then
    some true
  else
    ((spec_DrawPlayQueue a0).bind fun c332 =>
    ((impl_PlayQueue c332.1 c332.2).bind fun c333 =>
    ((spec_PlayQueue c332.1 c332.2).bind fun c334 =>
    (((if (!(c333.2.2 == c334.2.2)) = true then
        some (⟨true⟩ : laws_FnQueue_J4006)
      else
        ((laws_sameBools c333.2.1 c334.2.1).bind fun c339 =>
        (if (!c339) = true then
          some (⟨true⟩ : laws_FnQueue_J4006)
        else
          ((laws_sameTexts c333.1.Got c334.1.Got).bind fun c344 =>
          (if (!c344) = true then
            some (⟨true⟩ : laws_FnQueue_J4006)
          else
            ((laws_samePackets c333.1.Line c334.1.Line).bind fun c349 =>
            (if (!c349) = true then
              some (⟨true⟩ : laws_FnQueue_J4006)
            else
              some (⟨(c333.1.Base != c334.1.Base)⟩ : laws_FnQueue_J4006)))))))) : Option laws_FnQueue_J4006).bind fun p350 =>
    (if p350.t80 = true then
      some false
    else
      (((if c333.2.2 = true then
          ((loopF (laws_FnQueue_L1 c332 c333) ⟨0, []⟩).bind fun y354 =>
          ((impl_WaitingIn c333.1).bind fun c356 =>
          ((((laws_sameTexts c333.1.Sent y354.c1).bind fun c357 =>
            (if (!c357) = true then
              some (⟨true⟩ : laws_FnQueue_J4017)
            else
              (if (decide (((c333.1.Got.length : Nat) : Int) > ((y354.c1.length : Nat) : Int))) = true then
                some (⟨true⟩ : laws_FnQueue_J4017)
              else
                (guardO (0 ≤ 0 ∧ 0 ≤ ((c333.1.Got.length : Nat) : Int) ∧ ((c333.1.Got.length : Nat) : Int) ≤ ((y354.c1.length : Nat) : Int)) <|
                ((laws_sameTexts c333.1.Got (y354.c1.take c333.1.Got.length)).bind fun c358 =>
                (if (!c358) = true then
                  some (⟨true⟩ : laws_FnQueue_J4017)
                else
                  (if (decide (c333.1.Base > ((c333.1.Got.length : Nat) : Int))) = true then
                    some (⟨true⟩ : laws_FnQueue_J4017)
                  else
                    (if (!c356.2) = true then
                      some (⟨true⟩ : laws_FnQueue_J4017)
                    else
                      (if (c356.1 != (wI (((y354.c1.length : Nat) : Int) - ((c333.1.Got.length : Nat) : Int)))) = true then
                        some (⟨true⟩ : laws_FnQueue_J4017)
                      else
                        ((impl_GoodQueue c333.1).bind fun c359 =>
                        some (⟨(!c359)⟩ : laws_FnQueue_J4017))))))))))) : Option laws_FnQueue_J4017).bind fun p360 =>
          (if p360.t159 = true then
            some (.inr false)
          else
            some (.inl (() : Unit))))))
        else
          some (.inl (() : Unit))) : Option (Unit ⊕ Bool)).bind fun q => match q with
      | .inl p366 =>
        ((spec_DrawStepQueue a1).bind fun c386 =>
        ((impl_StepQueue c386.1 c386.2).bind fun c387 =>
        ((spec_StepQueue c386.1 c386.2).bind fun c388 =>
        (((if (!(c387.2 == c388.2)) = true then
            some (⟨true⟩ : laws_FnQueue_J4022)
          else
            ((laws_sameTexts c387.1.Got c388.1.Got).bind fun c389 =>
            (if (!c389) = true then
              some (⟨true⟩ : laws_FnQueue_J4022)
            else
              ((laws_samePackets c387.1.Line c388.1.Line).bind fun c390 =>
              some (⟨(!c390)⟩ : laws_FnQueue_J4022))))) : Option laws_FnQueue_J4022).bind fun p391 =>
        (if p391.t195 = true then
          some false
        else
          (if (!c387.2) = true then
            some true
          else
            ((impl_GoodQueue c387.1).bind fun c392 =>
            (if c392 = true then
              (if (decide (((c387.1.Got.length : Nat) : Int) ≥ ((c386.1.Got.length : Nat) : Int))) = true then
                some (decide (c387.1.Base ≥ c386.1.Base))
              else
                some false)
            else
              some false))))))))
      | .inr v => some v)))))))
end Go.TL

import Derived.Test.YtjkeoippmlmfbaaGreatDoorG20PlR1
import Derived.Test.YtjkeoippmlmfbaaGreatDoorG19PlTrim
set_option linter.unusedSimpArgs false
set_option linter.unusedVariables false
namespace Go.TL
end Go.TL
namespace Go.TL
structure RegionT where
  Id : Int
  Version : Int
  Tellings : TellingsT
  deriving DecidableEq, Inhabited
structure WordT where
  Version : Int
  Tellings : TellingsT
  deriving DecidableEq, Inhabited
structure SaidT where
  To : Int
  Word : WordT
  deriving DecidableEq, Inhabited
end Go.TL
namespace Go.TL
end Go.TL
namespace Go.TL
end Go.TL
namespace Go.TL
noncomputable def spec_l1Cur_eventName_o (a0 : l1CurT) : Option (ByteArray × l1CurT) :=
  ((spec_l1Cur_of_ow a0 ([(⟨#[97]⟩ : ByteArray), (⟨#[98]⟩ : ByteArray), (⟨#[99]⟩ : ByteArray), (⟨#[112, 97, 121]⟩ : ByteArray), (⟨#[115, 104, 105, 112]⟩ : ByteArray), (⟨#[115, 49]⟩ : ByteArray), (⟨#[115, 50]⟩ : ByteArray)])).bind fun c15 =>
  some (c15.1, c15.2))
noncomputable def spec_l1Cur_event_o (a0 : l1CurT) : Option (EventT × l1CurT) :=
  ((spec_l1Cur_pick_o a0 20).bind fun c86 =>
  ((spec_l1Cur_pick_o c86.2 40).bind fun c87 =>
  ((spec_l1Cur_pick_o c87.2 6).bind fun c88 =>
  ((spec_l1Cur_of_ow c88.2 ([(⟨#[97]⟩ : ByteArray), (⟨#[98]⟩ : ByteArray), (⟨#[112, 97, 121]⟩ : ByteArray), ByteArray.empty, (⟨#[115, 104, 105, 112, 50]⟩ : ByteArray)])).bind fun c89 =>
  ((spec_l1Cur_pick_o c89.2 60).bind fun c90 =>
  (if (c90.1 == 0) = true then
    ((spec_l1Cur_among_ow c90.2 ([0, 1000, 1001])).bind fun c91 =>
    some ((⟨c91.1, c87.1, (wI (1 + c88.1)), c89.1⟩ : EventT), c91.2))
  else
    (if (c90.1 == 1) = true then
      ((spec_l1Cur_among_ow c90.2 ([0, 7])).bind fun c92 =>
      some ((⟨(wI (1 + c86.1)), c87.1, c92.1, c89.1⟩ : EventT), c92.2))
    else
      (if (c90.1 == 2) = true then
        ((spec_l1Cur_of_ow c90.2 ([(⟨#[65]⟩ : ByteArray), (⟨#[49, 50, 51, 52, 53, 54, 55, 56, 57, 48, 49, 50, 51]⟩ : ByteArray)])).bind fun c93 =>
        some ((⟨(wI (1 + c86.1)), c87.1, (wI (1 + c88.1)), c93.1⟩ : EventT), c93.2))
      else
        (if (c90.1 == 3) = true then
          ((spec_l1Cur_among_ow c90.2 ([(-1), 1000000, 1000001])).bind fun c94 =>
          some ((⟨(wI (1 + c86.1)), c94.1, (wI (1 + c88.1)), c89.1⟩ : EventT), c94.2))
        else
          some ((⟨(wI (1 + c86.1)), c87.1, (wI (1 + c88.1)), c89.1⟩ : EventT), c90.2))))))))))
structure spec_l1Cur_history_o_J3000 where
  b0_0 : (List Int)
  b0_1 : Int
  b0_2 : Int
  c1 : (List EventT)
structure spec_l1Cur_history_o_G1 where
  t5 : Int
  t6 : Int
  b0_0 : (List Int)
  b0_1 : Int
  b0_2 : Int
  c1 : (List EventT)
  b2_0 : Int
  b2_1 : Int
  b2_2 : Bool
  b2_3 : Int
  b2_4 : (List ByteArray)
  b2_5 : (List ByteArray)
structure spec_l1Cur_history_o_P1_0 where
  b0_0 : (List Int)
  b0_1 : Int
  b0_2 : Int
  c1 : (List EventT)
structure spec_l1Cur_history_o_J12038 where
  b3_2 : Int
structure spec_l1Cur_history_o_J14012 where
  t50 : Bool
  b0_0 : (List Int)
  b0_1 : Int
  b0_2 : Int
noncomputable def spec_l1Cur_history_o_L1 (g9 : spec_l1Cur_history_o_G1) : Option (spec_l1Cur_history_o_G1 ⊕ spec_l1Cur_history_o_P1_0) :=
  (if (decide (g9.t6 > 0)) = true then
    ((spec_l1Cur_pick_o (⟨g9.b0_0, g9.b0_1, g9.b0_2⟩ : l1CurT) 2).bind fun c73 =>
    ((spec_l1Cur_pick_o c73.2 3).bind fun c74 =>
    ((spec_l1Cur_among_ow c74.2 ([2, 2, 3, 4, 4, 5, 6])).bind fun c75 =>
    ((spec_l1Cur_eventName_o c75.2).bind fun c76 =>
    (((if (g9.b2_0 == 0) = true then
        some (⟨1⟩ : spec_l1Cur_history_o_J12038)
      else
        some (⟨c75.1⟩ : spec_l1Cur_history_o_J12038)) : Option spec_l1Cur_history_o_J12038).bind fun p77 =>
    ((spec_l12Apply (⟨g9.b2_0, g9.b2_1, g9.b2_2, g9.b2_3, g9.b2_4, g9.b2_5⟩ : StateT) (⟨g9.b2_1, (wI (g9.t5 + (wI (c73.1 * c74.1)))), p77.b3_2, c76.1⟩ : EventT)).bind fun c78 =>
    (((if c78.2 = true then
        some (⟨true, c76.2.code, c76.2.at_, c76.2.seed⟩ : spec_l1Cur_history_o_J14012)
      else
        ((spec_l1Cur_one_o c76.2 20).bind fun c79 =>
        some (⟨c79.1, c79.2.code, c79.2.at_, c79.2.seed⟩ : spec_l1Cur_history_o_J14012))) : Option spec_l1Cur_history_o_J14012).bind fun p80 =>
    (if p80.t50 = true then
      (guardO ((g9.c1.length + 1) * 40 ≤ 140737488355328) <|
      (if (p77.b3_2 == 6) = true then
        (if c78.2 = true then
          some (.inr (⟨p80.b0_0, p80.b0_1, p80.b0_2, (g9.c1 ++ ([(⟨g9.b2_1, (wI (g9.t5 + (wI (c73.1 * c74.1)))), p77.b3_2, c76.1⟩ : EventT)]))⟩))
        else
          some (.inl ⟨(wI (g9.t5 + (wI (c73.1 * c74.1)))), (wI (g9.t6 - 1)), p80.b0_0, p80.b0_1, p80.b0_2, (g9.c1 ++ ([(⟨g9.b2_1, (wI (g9.t5 + (wI (c73.1 * c74.1)))), p77.b3_2, c76.1⟩ : EventT)])), c78.1.Status, c78.1.Next, c78.1.Cancel, c78.1.Done, c78.1.Signals, c78.1.Timers⟩))
      else
        some (.inl ⟨(wI (g9.t5 + (wI (c73.1 * c74.1)))), (wI (g9.t6 - 1)), p80.b0_0, p80.b0_1, p80.b0_2, (g9.c1 ++ ([(⟨g9.b2_1, (wI (g9.t5 + (wI (c73.1 * c74.1)))), p77.b3_2, c76.1⟩ : EventT)])), c78.1.Status, c78.1.Next, c78.1.Cancel, c78.1.Done, c78.1.Signals, c78.1.Timers⟩)))
    else
      (if (p77.b3_2 == 6) = true then
        (if c78.2 = true then
          some (.inr (⟨p80.b0_0, p80.b0_1, p80.b0_2, g9.c1⟩))
        else
          some (.inl ⟨(wI (g9.t5 + (wI (c73.1 * c74.1)))), (wI (g9.t6 - 1)), p80.b0_0, p80.b0_1, p80.b0_2, g9.c1, g9.b2_0, g9.b2_1, g9.b2_2, g9.b2_3, g9.b2_4, g9.b2_5⟩))
      else
        some (.inl ⟨(wI (g9.t5 + (wI (c73.1 * c74.1)))), (wI (g9.t6 - 1)), p80.b0_0, p80.b0_1, p80.b0_2, g9.c1, g9.b2_0, g9.b2_1, g9.b2_2, g9.b2_3, g9.b2_4, g9.b2_5⟩))))))))))
  else
    some (.inr (⟨g9.b0_0, g9.b0_1, g9.b0_2, g9.c1⟩)))
structure spec_l1Cur_history_o_J4016 where
  t68 : Bool
  b0_0 : (List Int)
  b0_1 : Int
  b0_2 : Int
noncomputable def spec_l1Cur_history_o (a0 : l1CurT) : Option ((List EventT) × l1CurT) :=
  ((spec_NewState).bind fun c3 =>
  ((spec_l1Cur_pick_o a0 5).bind fun c7 =>
  ((((spec_l1Cur_pick_o c7.2 12).bind fun c8 =>
    ((loopF (spec_l1Cur_history_o_L1) ⟨c7.1, c8.1, c8.2.code, c8.2.at_, c8.2.seed, [], c3.Status, c3.Next, c3.Cancel, c3.Done, [], []⟩).bind fun y81 =>
    some (⟨y81.b0_0, y81.b0_1, y81.b0_2, y81.c1⟩ : spec_l1Cur_history_o_J3000))) : Option spec_l1Cur_history_o_J3000).bind fun p82 =>
  (((if (decide (((p82.c1.length : Nat) : Int) > 0)) = true then
      ((spec_l1Cur_one_o (⟨p82.b0_0, p82.b0_1, p82.b0_2⟩ : l1CurT) 20).bind fun c83 =>
      some (⟨c83.1, c83.2.code, c83.2.at_, c83.2.seed⟩ : spec_l1Cur_history_o_J4016))
    else
      some (⟨false, p82.b0_0, p82.b0_1, p82.b0_2⟩ : spec_l1Cur_history_o_J4016)) : Option spec_l1Cur_history_o_J4016).bind fun p84 =>
  (if p84.t68 = true then
    ((spec_l1Cur_pick_o (⟨p84.b0_0, p84.b0_1, p84.b0_2⟩ : l1CurT) ((p82.c1.length : Nat) : Int)).bind fun c85 =>
    ((spec_l1Cur_event_o c85.2).bind fun c95 =>
    (guardO (0 ≤ c85.1 ∧ c85.1 < ((p82.c1.length : Nat) : Int)) <|
    some ((p82.c1.set c85.1.toNat c95.1), c95.2))))
  else
    some (p82.c1, (⟨p84.b0_0, p84.b0_1, p84.b0_2⟩ : l1CurT)))))))
end Go.TL
namespace Go.TL
structure MoveT where
  From : Int
  To : Int
  Many : Int
  deriving DecidableEq, Inhabited
end Go.TL
namespace Go.TL
structure spec_l15Current_G1 where
  t3 : Int
  t11 : Int
structure spec_l15Current_P1_0 where
  t3 : Int
structure spec_l15Current_J4010 where
  t55 : Bool
noncomputable def spec_l15Current_L1 (a0 : (List BranchT)) (g128 : spec_l15Current_G1) : Option (spec_l15Current_G1 ⊕ spec_l15Current_P1_0) :=
  (if (decide (g128.t11 < ((a0.length : Nat) : Int))) = true then
    (guardO (0 ≤ g128.t11 ∧ g128.t11 < (a0.length : Int)) <|
    (if (decide (g128.t3 < 0)) = true then
      some (.inl ⟨g128.t11, (wI (g128.t11 + 1))⟩)
    else
      (guardO (0 ≤ g128.t3 ∧ g128.t3 < (a0.length : Int)) <|
      (guardO (0 ≤ (wI (((((nth a0 g128.t11.toNat).Events).length : Nat) : Int) - 1)) ∧ (wI (((((nth a0 g128.t11.toNat).Events).length : Nat) : Int) - 1)) < (((nth a0 g128.t11.toNat).Events).length : Int)) <|
      (guardO (0 ≤ (wI (((((nth a0 g128.t3.toNat).Events).length : Nat) : Int) - 1)) ∧ (wI (((((nth a0 g128.t3.toNat).Events).length : Nat) : Int) - 1)) < (((nth a0 g128.t3.toNat).Events).length : Int)) <|
      (((if (decide (((nth ((nth a0 g128.t11.toNat).Events) ((wI (((((nth a0 g128.t11.toNat).Events).length : Nat) : Int) - 1)).toNat)).Version) > ((nth ((nth a0 g128.t3.toNat).Events) ((wI (((((nth a0 g128.t3.toNat).Events).length : Nat) : Int) - 1)).toNat)).Version))) = true then
          some (⟨true⟩ : spec_l15Current_J4010)
        else
          (if (((nth ((nth a0 g128.t11.toNat).Events) ((wI (((((nth a0 g128.t11.toNat).Events).length : Nat) : Int) - 1)).toNat)).Version) == ((nth ((nth a0 g128.t3.toNat).Events) ((wI (((((nth a0 g128.t3.toNat).Events).length : Nat) : Int) - 1)).toNat)).Version)) = true then
            some (⟨(decide (((((nth a0 g128.t11.toNat).Events).length : Nat) : Int) ≥ ((((nth a0 g128.t3.toNat).Events).length : Nat) : Int)))⟩ : spec_l15Current_J4010)
          else
            some (⟨false⟩ : spec_l15Current_J4010))) : Option spec_l15Current_J4010).bind fun p129 =>
      (if p129.t55 = true then
        some (.inl ⟨g128.t11, (wI (g128.t11 + 1))⟩)
      else
        some (.inl ⟨g128.t3, (wI (g128.t11 + 1))⟩))))))))
  else
    some (.inr (⟨g128.t3⟩)))
noncomputable def spec_l15Current (a0 : (List BranchT)) : Option Int :=
  ((loopF (spec_l15Current_L1 a0) ⟨(-1), 0⟩).bind fun y130 =>
  some y130.t3)
noncomputable def spec_l15OwnEvents (a0 : (List EventT)) : Option (List EventT) :=
  (guardO (a0.length * 40 ≤ 140737488355328) <|
  some (([]) ++ a0))
structure spec_CurrentOf_J2006 where
  t4 : Int
noncomputable def spec_CurrentOf (a0 : TellingsT) : Option ((List EventT) × Bool) :=
  ((((spec_GoodTellings a0).bind fun c127 =>
    (if c127 = true then
      ((spec_l15Current a0.Branches).bind fun c131 =>
      some (⟨c131⟩ : spec_CurrentOf_J2006))
    else
      some (⟨(-1)⟩ : spec_CurrentOf_J2006))) : Option spec_CurrentOf_J2006).bind fun p132 =>
  (if (decide (p132.t4 < 0)) = true then
    some ([], false)
  else
    (guardO (0 ≤ p132.t4 ∧ p132.t4 < (a0.Branches.length : Int)) <|
    ((spec_l15OwnEvents ((nth a0.Branches p132.t4.toNat).Events)).bind fun c133 =>
    some (c133, true)))))
noncomputable def impl_version (a0 : (List EventT)) : Option Int :=
  (guardO (0 ≤ (wI (((a0.length : Nat) : Int) - 1)) ∧ (wI (((a0.length : Nat) : Int) - 1)) < (a0.length : Int)) <|
  some ((nth a0 ((wI (((a0.length : Nat) : Int) - 1)).toNat)).Version))
noncomputable def impl_current_c1 (a0 : BranchT) (a1 : BranchT) : Option Int :=
  ((impl_version a0.Events).bind fun c275 =>
  ((impl_version a1.Events).bind fun c276 =>
  ((cmp_Compare_int c275 c276).bind fun c277 =>
  ((cmp_Compare_int ((a0.Events.length : Nat) : Int) ((a1.Events.length : Nat) : Int)).bind fun c278 =>
  ((impl_branchOrder a0.Events a1.Events).bind fun c279 =>
  ((cmp_Or_int ([c277, c278, c279])).bind fun c280 =>
  some c280))))))
structure slices_MaxFunc_impl_Branch_impl_current_c1_G1 where
  t6 : Int
  b1_0 : (List EventT)
structure slices_MaxFunc_impl_Branch_impl_current_c1_P1_0 where
  b1_0 : (List EventT)
noncomputable def slices_MaxFunc_impl_Branch_impl_current_c1_L1 (a0 : (List BranchT)) (g274 : slices_MaxFunc_impl_Branch_impl_current_c1_G1) : Option (slices_MaxFunc_impl_Branch_impl_current_c1_G1 ⊕ slices_MaxFunc_impl_Branch_impl_current_c1_P1_0) :=
  (if (decide (g274.t6 < ((a0.length : Nat) : Int))) = true then
    (guardO (0 ≤ g274.t6 ∧ g274.t6 < (a0.length : Int)) <|
    ((impl_current_c1 (nth a0 g274.t6.toNat) (⟨g274.b1_0⟩ : BranchT)).bind fun c282 =>
    (if (decide (c282 > 0)) = true then
      (guardO (0 ≤ g274.t6 ∧ g274.t6 < (a0.length : Int)) <|
      some (.inl ⟨(wI (g274.t6 + 1)), (nth a0 g274.t6.toNat).Events⟩))
    else
      some (.inl ⟨(wI (g274.t6 + 1)), g274.b1_0⟩))))
  else
    some (.inr (⟨g274.b1_0⟩)))
noncomputable def slices_MaxFunc_impl_Branch_impl_current_c1 (a0 : (List BranchT)) : Option BranchT :=
  (((if (decide (((a0.length : Nat) : Int) < 1)) = true then
      none
    else
      some (() : Unit)) : Option Unit).bind fun p273 =>
  (guardO (0 < (a0.length : Int)) <|
  ((loopF (slices_MaxFunc_impl_Branch_impl_current_c1_L1 a0) ⟨1, (nth a0 0).Events⟩).bind fun y283 =>
  some (⟨y283.b1_0⟩ : BranchT))))
noncomputable def impl_current (a0 : TellingsT) : Option (List EventT) :=
  (if (((a0.Branches.length : Nat) : Int) == 0) = true then
    some ([])
  else
    ((slices_MaxFunc_impl_Branch_impl_current_c1 a0.Branches).bind fun c284 =>
    some c284.Events))
noncomputable def slices_Clone_impl_Event (a0 : (List EventT)) : Option (List EventT) :=
  guardO (a0.length * 40 ≤ 140737488355328) (some a0)
structure impl_CurrentOf_J4001 where
  t12 : Bool
noncomputable def impl_CurrentOf (a0 : TellingsT) : Option ((List EventT) × Bool) :=
  ((((impl_GoodTellings a0).bind fun c271 =>
    (if (!c271) = true then
      some (⟨true⟩ : impl_CurrentOf_J4001)
    else
      some (⟨(((a0.Branches.length : Nat) : Int) == 0)⟩ : impl_CurrentOf_J4001))) : Option impl_CurrentOf_J4001).bind fun p272 =>
  (if p272.t12 = true then
    some ([], false)
  else
    ((impl_current a0).bind fun c285 =>
    ((slices_Clone_impl_Event c285).bind fun c286 =>
    some (c286, true)))))
end Go.TL
namespace Go.TL
structure spec_l15Lost_G1 where
  t28 : Int
  c1 : (List ByteArray)
structure spec_l15Lost_P1_0 where
  c0 : (List ByteArray)
structure spec_l15Lost_G2 where
  t41 : Int
  c1 : (List ByteArray)
structure spec_l15Lost_P2_0 where
  c1 : (List ByteArray)
structure spec_l15Lost_J34013 where
  t55 : Bool
noncomputable def spec_l15Lost_L2 (c145 : (StateT × Int)) (c132 : (StateT × Int)) (g146 : spec_l15Lost_G2) : Option (spec_l15Lost_G2 ⊕ spec_l15Lost_P2_0) :=
  (if (decide (g146.t41 < ((c145.1.Signals.length : Nat) : Int))) = true then
    (guardO (0 ≤ g146.t41 ∧ g146.t41 < (c145.1.Signals.length : Int)) <|
    ((((spec_l12At c132.1.Signals (nth c145.1.Signals g146.t41.toNat)).bind fun c151 =>
      (if (decide (c151 < 0)) = true then
        ((spec_l12At g146.c1 (nth c145.1.Signals g146.t41.toNat)).bind fun c152 =>
        some (⟨(decide (c152 < 0))⟩ : spec_l15Lost_J34013))
      else
        some (⟨false⟩ : spec_l15Lost_J34013))) : Option spec_l15Lost_J34013).bind fun p153 =>
    (if p153.t55 = true then
      ((spec_l12Timer g146.c1 (nth c145.1.Signals g146.t41.toNat)).bind fun c154 =>
      some (.inl ⟨(wI (g146.t41 + 1)), c154⟩))
    else
      some (.inl ⟨(wI (g146.t41 + 1)), g146.c1⟩))))
  else
    some (.inr (⟨g146.c1⟩)))
noncomputable def spec_l15Lost_L1 (a0 : (List BranchT)) (c132 : (StateT × Int)) (g133 : spec_l15Lost_G1) : Option (spec_l15Lost_G1 ⊕ spec_l15Lost_P1_0) :=
  (if (decide (g133.t28 < ((a0.length : Nat) : Int))) = true then
    (guardO (0 ≤ g133.t28 ∧ g133.t28 < (a0.length : Int)) <|
    ((spec_l12Fold ((nth a0 g133.t28.toNat).Events)).bind fun c145 =>
    ((loopF (spec_l15Lost_L2 c145 c132) ⟨0, g133.c1⟩).bind fun y155 =>
    some (.inl ⟨(wI (g133.t28 + 1)), y155.c1⟩))))
  else
    some (.inr (⟨g133.c1⟩)))
noncomputable def spec_l15Lost (a0 : (List BranchT)) : Option (List ByteArray) :=
  ((spec_l15Current a0).bind fun c131 =>
  (if (decide (c131 < 0)) = true then
    some ([])
  else
    (guardO (0 ≤ c131 ∧ c131 < (a0.length : Int)) <|
    ((spec_l12Fold ((nth a0 c131.toNat).Events)).bind fun c132 =>
    ((loopF (spec_l15Lost_L1 a0 c132) ⟨0, []⟩).bind fun y156 =>
    some y156.c0)))))
noncomputable def spec_LostSignals (a0 : TellingsT) : Option ((List ByteArray) × Bool) :=
  ((spec_GoodTellings a0).bind fun c127 =>
  (if (!c127) = true then
    some ([], false)
  else
    ((spec_l15Lost a0.Branches).bind fun c157 =>
    some (c157, true))))
structure impl_signals_G1 where
  t9 : Int
  c0 : (List ByteArray)
structure impl_signals_P1_0 where
  c0 : (List ByteArray)
noncomputable def impl_signals_L1 (a0 : (List EventT)) (g309 : impl_signals_G1) : Option (impl_signals_G1 ⊕ impl_signals_P1_0) :=
  (if (decide (g309.t9 < ((a0.length : Nat) : Int))) = true then
    (guardO (0 ≤ g309.t9 ∧ g309.t9 < (a0.length : Int)) <|
    (if (((nth a0 g309.t9.toNat).Kind) == 2) = true then
      (guardO ((g309.c0.length + 1) * 16 ≤ 140737488355328) <|
      some (.inl ⟨(wI (g309.t9 + 1)), (g309.c0 ++ ([(nth a0 g309.t9.toNat).Name]))⟩))
    else
      some (.inl ⟨(wI (g309.t9 + 1)), g309.c0⟩)))
  else
    some (.inr (⟨g309.c0⟩)))
noncomputable def impl_signals (a0 : (List EventT)) : Option (List ByteArray) :=
  ((loopF (impl_signals_L1 a0) ⟨0, []⟩).bind fun y310 =>
  some y310.c0)
noncomputable def slices_Sort_string_w (a0 : (List ByteArray)) : Option (List ByteArray) :=
  guardO (a0.length < 4611686018427387904) (some (sortS a0))
noncomputable def slices_Compact_string_w (a0 : (List ByteArray)) : Option (List ByteArray) :=
  guardO (a0.length ≤ 9223372036854775807) (some (compS a0))
structure impl_lostSignals_G1 where
  t16 : Int
  c1 : (List ByteArray)
structure impl_lostSignals_P1_0 where
  c0 : (List ByteArray)
structure impl_lostSignals_G2 where
  t24 : Int
  c1 : (List ByteArray)
structure impl_lostSignals_P2_0 where
  c1 : (List ByteArray)
noncomputable def impl_lostSignals_L2 (c318 : (List ByteArray)) (c311 : (List ByteArray)) (g319 : impl_lostSignals_G2) : Option (impl_lostSignals_G2 ⊕ impl_lostSignals_P2_0) :=
  (if (decide (g319.t24 < ((c318.length : Nat) : Int))) = true then
    (guardO (0 ≤ g319.t24 ∧ g319.t24 < ((c318.length : Nat) : Int)) <|
    ((slices_Contains_string c311 (nth c318 g319.t24.toNat)).bind fun c321 =>
    (if (!c321) = true then
      (guardO ((g319.c1.length + 1) * 16 ≤ 140737488355328) <|
      some (.inl ⟨(wI (g319.t24 + 1)), (g319.c1 ++ ([(nth c318 g319.t24.toNat)]))⟩))
    else
      some (.inl ⟨(wI (g319.t24 + 1)), g319.c1⟩))))
  else
    some (.inr (⟨g319.c1⟩)))
noncomputable def impl_lostSignals_L1 (a0 : TellingsT) (c311 : (List ByteArray)) (g312 : impl_lostSignals_G1) : Option (impl_lostSignals_G1 ⊕ impl_lostSignals_P1_0) :=
  (if (decide (g312.t16 < ((a0.Branches.length : Nat) : Int))) = true then
    (guardO (0 ≤ g312.t16 ∧ g312.t16 < (a0.Branches.length : Int)) <|
    ((impl_signals ((nth a0.Branches g312.t16.toNat).Events)).bind fun c318 =>
    ((loopF (impl_lostSignals_L2 c318 c311) ⟨0, g312.c1⟩).bind fun y322 =>
    some (.inl ⟨(wI (g312.t16 + 1)), y322.c1⟩))))
  else
    some (.inr (⟨g312.c1⟩)))
noncomputable def impl_lostSignals (a0 : TellingsT) : Option (List ByteArray) :=
  ((impl_current a0).bind fun c308 =>
  ((impl_signals c308).bind fun c311 =>
  ((loopF (impl_lostSignals_L1 a0 c311) ⟨0, []⟩).bind fun y323 =>
  ((slices_Sort_string_w y323.c0).bind fun c324 =>
  (guardO (c324.length = y323.c0.length) <|
  ((slices_Compact_string_w c324).bind fun c325 =>
  some c325))))))
noncomputable def impl_LostSignals (a0 : TellingsT) : Option ((List ByteArray) × Bool) :=
  ((impl_GoodTellings a0).bind fun c295 =>
  (if (!c295) = true then
    some ([], false)
  else
    ((impl_lostSignals a0).bind fun c328 =>
    some (c328, true))))
end Go.TL

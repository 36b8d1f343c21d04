import Derived.Test.YtjkeoippmlmfbaaGreatDoorG20PlR1
import Derived.Test.YtjkeoippmlmfbaaGreatDoorG19PlTrim
set_option linter.unusedSimpArgs false
set_option linter.unusedVariables false
namespace Go.TL
end Go.TL
namespace Go.TL
structure RegionT where
  Id : Int
  Version : Int
  Tellings : TellingsT
  deriving DecidableEq,Inhabited
structure WordT where
  Version : Int
  Tellings : TellingsT
  deriving DecidableEq,Inhabited
structure SaidT where
  To : Int
  Word : WordT
  deriving DecidableEq,Inhabited
end Go.TL
namespace Go.TL
structure impl_EventsIn_G1 where
  t4 : Int
  t16 : Int
structure impl_EventsIn_P1_0 where
  t4 : Int
structure impl_EventsIn_G2 where
  t7 : Int
  t26 : Int
structure impl_EventsIn_P2_0 where
  t7 : Int
noncomputable def impl_EventsIn_L2 (a0 : TellingsT) (g284 : impl_EventsIn_G1) (g291 : impl_EventsIn_G2) : Option (impl_EventsIn_G2 ⊕ impl_EventsIn_P2_0) :=
  (if (decide (g291.t26 < (((a0.Branches.take g284.t16.toNat).length : Nat) : Int))) = true then
    (guardO (0 ≤ g291.t26 ∧ g291.t26 < ((a0.Branches.take g284.t16.toNat).length : Int)) <|
    ((impl_shared ((nth a0.Branches g284.t16.toNat).Events) ((nth (a0.Branches.take g284.t16.toNat) g291.t26.toNat).Events)).bind fun c293 =>
    some (.inl ⟨(max g291.t7 c293),(wI (g291.t26 + 1))⟩)))
  else
    some (.inr (⟨g291.t7⟩)))
noncomputable def impl_EventsIn_L1 (a0 : TellingsT) (g284 : impl_EventsIn_G1) : Option (impl_EventsIn_G1 ⊕ impl_EventsIn_P1_0) :=
  (if (decide (g284.t16 < ((a0.Branches.length : Nat) : Int))) = true then
    (guardO (0 ≤ g284.t16 ∧ g284.t16 < (a0.Branches.length : Int)) <|
    (guardO (0 ≤ g284.t16 ∧ g284.t16 ≤ (a0.Branches.length : Int)) <|
    ((loopF (impl_EventsIn_L2 a0 g284) ⟨0,0⟩).bind fun y294 =>
    some (.inl ⟨(wI (g284.t4 + (wI (((((nth a0.Branches g284.t16.toNat).Events).length : Nat) : Int) - y294.t7)))),(wI (g284.t16 + 1))⟩))))
  else
    some (.inr (⟨g284.t4⟩)))
noncomputable def impl_EventsIn (a0 : TellingsT) : Option (Int × Bool) :=
  ((impl_GoodTellings a0).bind fun c283 =>
  (if (!c283) = true then
    some (0,false)
  else
    ((loopF (impl_EventsIn_L1 a0) ⟨0,0⟩).bind fun y295 =>
    some (y295.t4,true))))
end Go.TL
namespace Go.TL
end Go.TL
namespace Go.TL
noncomputable def spec_l1Cur_eventName_o (a0 : l1CurT) : Option (ByteArray × l1CurT) :=
  ((spec_l1Cur_of_ow a0 ([(⟨#[97]⟩ : ByteArray),(⟨#[98]⟩ : ByteArray),(⟨#[99]⟩ : ByteArray),(⟨#[112,97,121]⟩ : ByteArray),(⟨#[115,104,105,112]⟩ : ByteArray),(⟨#[115,49]⟩ : ByteArray),(⟨#[115,50]⟩ : ByteArray)])).bind fun c15 =>
  some (c15.1,c15.2))
noncomputable def spec_l1Cur_event_o (a0 : l1CurT) : Option (EventT × l1CurT) :=
  ((spec_l1Cur_pick_o a0 20).bind fun c86 =>
  ((spec_l1Cur_pick_o c86.2 40).bind fun c87 =>
  ((spec_l1Cur_pick_o c87.2 6).bind fun c88 =>
  ((spec_l1Cur_of_ow c88.2 ([(⟨#[97]⟩ : ByteArray),(⟨#[98]⟩ : ByteArray),(⟨#[112,97,121]⟩ : ByteArray),ByteArray.empty,(⟨#[115,104,105,112,50]⟩ : ByteArray)])).bind fun c89 =>
  ((spec_l1Cur_pick_o c89.2 60).bind fun c90 =>
  (if (c90.1 == 0) = true then
    ((spec_l1Cur_among_ow c90.2 ([0,1000,1001])).bind fun c91 =>
    some ((⟨c91.1,c87.1,(wI (1 + c88.1)),c89.1⟩ : EventT),c91.2))
  else
    (if (c90.1 == 1) = true then
      ((spec_l1Cur_among_ow c90.2 ([0,7])).bind fun c92 =>
      some ((⟨(wI (1 + c86.1)),c87.1,c92.1,c89.1⟩ : EventT),c92.2))
    else
      (if (c90.1 == 2) = true then
        ((spec_l1Cur_of_ow c90.2 ([(⟨#[65]⟩ : ByteArray),(⟨#[49,50,51,52,53,54,55,56,57,48,49,50,51]⟩ : ByteArray)])).bind fun c93 =>
        some ((⟨(wI (1 + c86.1)),c87.1,(wI (1 + c88.1)),c93.1⟩ : EventT),c93.2))
      else
        (if (c90.1 == 3) = true then
          ((spec_l1Cur_among_ow c90.2 ([(-1),1000000,1000001])).bind fun c94 =>
          some ((⟨(wI (1 + c86.1)),c94.1,(wI (1 + c88.1)),c89.1⟩ : EventT),c94.2))
        else
          some ((⟨(wI (1 + c86.1)),c87.1,(wI (1 + c88.1)),c89.1⟩ : EventT),c90.2))))))))))
structure spec_l1Cur_history_o_J3000 where
  b0_0 : (List Int)
  b0_1 : Int
  b0_2 : Int
  c1 : (List EventT)
structure spec_l1Cur_history_o_G1 where
  t5 : Int
  t6 : Int
  b0_0 : (List Int)
  b0_1 : Int
  b0_2 : Int
  c1 : (List EventT)
  b2_0 : Int
  b2_1 : Int
  b2_2 : Bool
  b2_3 : Int
  b2_4 : (List ByteArray)
  b2_5 : (List ByteArray)
structure spec_l1Cur_history_o_P1_0 where
  b0_0 : (List Int)
  b0_1 : Int
  b0_2 : Int
  c1 : (List EventT)
structure spec_l1Cur_history_o_J12038 where
  b3_2 : Int
structure spec_l1Cur_history_o_J14012 where
  t50 : Bool
  b0_0 : (List Int)
  b0_1 : Int
  b0_2 : Int
noncomputable def spec_l1Cur_history_o_L1 (g9 : spec_l1Cur_history_o_G1) : Option (spec_l1Cur_history_o_G1 ⊕ spec_l1Cur_history_o_P1_0) :=
  (if (decide (g9.t6 > 0)) = true then
    ((spec_l1Cur_pick_o (⟨g9.b0_0,g9.b0_1,g9.b0_2⟩ : l1CurT) 2).bind fun c73 =>
    ((spec_l1Cur_pick_o c73.2 3).bind fun c74 =>
    ((spec_l1Cur_among_ow c74.2 ([2,2,3,4,4,5,6])).bind fun c75 =>
    ((spec_l1Cur_eventName_o c75.2).bind fun c76 =>
    (((if (g9.b2_0 == 0) = true then
        some (⟨1⟩ : spec_l1Cur_history_o_J12038)
      else
        some (⟨c75.1⟩ : spec_l1Cur_history_o_J12038)) : Option spec_l1Cur_history_o_J12038).bind fun p77 =>
    ((spec_l12Apply (⟨g9.b2_0,g9.b2_1,g9.b2_2,g9.b2_3,g9.b2_4,g9.b2_5⟩ : StateT) (⟨g9.b2_1,(wI (g9.t5 + (wI (c73.1 * c74.1)))),p77.b3_2,c76.1⟩ : EventT)).bind fun c78 =>
    (((if c78.2 = true then
        some (⟨true,c76.2.code,c76.2.at_,c76.2.seed⟩ : spec_l1Cur_history_o_J14012)
      else
        ((spec_l1Cur_one_o c76.2 20).bind fun c79 =>
        some (⟨c79.1,c79.2.code,c79.2.at_,c79.2.seed⟩ : spec_l1Cur_history_o_J14012))) : Option spec_l1Cur_history_o_J14012).bind fun p80 =>
    (if p80.t50 = true then
      (guardO ((g9.c1.length + 1) * 40 ≤ 140737488355328) <|
      (if (p77.b3_2 == 6) = true then
        (if c78.2 = true then
          some (.inr (⟨p80.b0_0,p80.b0_1,p80.b0_2,(g9.c1 ++ ([(⟨g9.b2_1,(wI (g9.t5 + (wI (c73.1 * c74.1)))),p77.b3_2,c76.1⟩ : EventT)]))⟩))
        else
          some (.inl ⟨(wI (g9.t5 + (wI (c73.1 * c74.1)))),(wI (g9.t6 - 1)),p80.b0_0,p80.b0_1,p80.b0_2,(g9.c1 ++ ([(⟨g9.b2_1,(wI (g9.t5 + (wI (c73.1 * c74.1)))),p77.b3_2,c76.1⟩ : EventT)])),c78.1.Status,c78.1.Next,c78.1.Cancel,c78.1.Done,c78.1.Signals,c78.1.Timers⟩))
      else
        some (.inl ⟨(wI (g9.t5 + (wI (c73.1 * c74.1)))),(wI (g9.t6 - 1)),p80.b0_0,p80.b0_1,p80.b0_2,(g9.c1 ++ ([(⟨g9.b2_1,(wI (g9.t5 + (wI (c73.1 * c74.1)))),p77.b3_2,c76.1⟩ : EventT)])),c78.1.Status,c78.1.Next,c78.1.Cancel,c78.1.Done,c78.1.Signals,c78.1.Timers⟩)))
    else
      (if (p77.b3_2 == 6) = true then
        (if c78.2 = true then
          some (.inr (⟨p80.b0_0,p80.b0_1,p80.b0_2,g9.c1⟩))
        else
          some (.inl ⟨(wI (g9.t5 + (wI (c73.1 * c74.1)))),(wI (g9.t6 - 1)),p80.b0_0,p80.b0_1,p80.b0_2,g9.c1,g9.b2_0,g9.b2_1,g9.b2_2,g9.b2_3,g9.b2_4,g9.b2_5⟩))
      else
        some (.inl ⟨(wI (g9.t5 + (wI (c73.1 * c74.1)))),(wI (g9.t6 - 1)),p80.b0_0,p80.b0_1,p80.b0_2,g9.c1,g9.b2_0,g9.b2_1,g9.b2_2,g9.b2_3,g9.b2_4,g9.b2_5⟩))))))))))
  else
    some (.inr (⟨g9.b0_0,g9.b0_1,g9.b0_2,g9.c1⟩)))
structure spec_l1Cur_history_o_J4016 where
  t68 : Bool
  b0_0 : (List Int)
  b0_1 : Int
  b0_2 : Int
noncomputable def spec_l1Cur_history_o (a0 : l1CurT) : Option ((List EventT) × l1CurT) :=
  ((spec_NewState).bind fun c3 =>
  ((spec_l1Cur_pick_o a0 5).bind fun c7 =>
  ((((spec_l1Cur_pick_o c7.2 12).bind fun c8 =>
    ((loopF (spec_l1Cur_history_o_L1) ⟨c7.1,c8.1,c8.2.code,c8.2.at_,c8.2.seed,[],c3.Status,c3.Next,c3.Cancel,c3.Done,[],[]⟩).bind fun y81 =>
    some (⟨y81.b0_0,y81.b0_1,y81.b0_2,y81.c1⟩ : spec_l1Cur_history_o_J3000))) : Option spec_l1Cur_history_o_J3000).bind fun p82 =>
  (((if (decide (((p82.c1.length : Nat) : Int) > 0)) = true then
      ((spec_l1Cur_one_o (⟨p82.b0_0,p82.b0_1,p82.b0_2⟩ : l1CurT) 20).bind fun c83 =>
      some (⟨c83.1,c83.2.code,c83.2.at_,c83.2.seed⟩ : spec_l1Cur_history_o_J4016))
    else
      some (⟨false,p82.b0_0,p82.b0_1,p82.b0_2⟩ : spec_l1Cur_history_o_J4016)) : Option spec_l1Cur_history_o_J4016).bind fun p84 =>
  (if p84.t68 = true then
    ((spec_l1Cur_pick_o (⟨p84.b0_0,p84.b0_1,p84.b0_2⟩ : l1CurT) ((p82.c1.length : Nat) : Int)).bind fun c85 =>
    ((spec_l1Cur_event_o c85.2).bind fun c95 =>
    (guardO (0 ≤ c85.1 ∧ c85.1 < ((p82.c1.length : Nat) : Int)) <|
    some ((p82.c1.set c85.1.toNat c95.1),c95.2))))
  else
    some (p82.c1,(⟨p84.b0_0,p84.b0_1,p84.b0_2⟩ : l1CurT)))))))
end Go.TL
namespace Go.TL
structure MoveT where
  From : Int
  To : Int
  Many : Int
  deriving DecidableEq,Inhabited
end Go.TL
namespace Go.TL
noncomputable def spec_l15OwnEvents (a0 : (List EventT)) : Option (List EventT) :=
  (guardO (a0.length * 40 ≤ 140737488355328) <|
  some (([]) ++ a0))
noncomputable def slices_Clone_impl_Event (a0 : (List EventT)) : Option (List EventT) :=
  guardO (a0.length * 40 ≤ 140737488355328) (some a0)
structure impl_cloneTellings_G1 where
  t10 : Int
  c2 : (List BranchT)
structure impl_cloneTellings_P1_0 where
  c2 : (List BranchT)
noncomputable def impl_cloneTellings_L1 (a0 : TellingsT) (g397 : impl_cloneTellings_G1) : Option (impl_cloneTellings_G1 ⊕ impl_cloneTellings_P1_0) :=
  (if (decide (g397.t10 < ((a0.Branches.length : Nat) : Int))) = true then
    (guardO (0 ≤ g397.t10 ∧ g397.t10 < (a0.Branches.length : Int)) <|
    ((slices_Clone_impl_Event ((nth a0.Branches g397.t10.toNat).Events)).bind fun c399 =>
    (guardO ((g397.c2.length + 1) * 24 ≤ 140737488355328) <|
    some (.inl ⟨(wI (g397.t10 + 1)),(g397.c2 ++ [(⟨c399⟩ : BranchT)])⟩))))
  else
    some (.inr (⟨g397.c2⟩)))
noncomputable def impl_cloneTellings (a0 : TellingsT) : Option TellingsT :=
  ((loopF (impl_cloneTellings_L1 a0) ⟨0,[]⟩).bind fun y400 =>
  some (⟨y400.c2⟩ : TellingsT))
end Go.TL
namespace Go.TL
end Go.TL

import Derived.Test.YtjhcfmcdllfmpaaDoorG19PlR1
import Derived.Test.YtjhcfmcdllfmpaaDoorPlSort
set_option linter.unusedSimpArgs false
set_option linter.unusedVariables false
namespace Go.TL
end Go.TL
namespace Go.TL
structure RegionT where
  Id : Int
  Version : Int
  Tellings : TellingsT
  deriving DecidableEq, Inhabited
structure WordT where
  Version : Int
  Tellings : TellingsT
  deriving DecidableEq, Inhabited
structure SaidT where
  To : Int
  Word : WordT
  deriving DecidableEq, Inhabited
end Go.TL
namespace Go.TL
end Go.TL
namespace Go.TL
end Go.TL
namespace Go.TL
noncomputable def spec_l1Cur_eventName_o (a0 : l1CurT) : Option (ByteArray × l1CurT) :=
  ((spec_l1Cur_of_ow a0 ([(⟨#[97]⟩ : ByteArray), (⟨#[98]⟩ : ByteArray), (⟨#[99]⟩ : ByteArray), (⟨#[112, 97, 121]⟩ : ByteArray), (⟨#[115, 104, 105, 112]⟩ : ByteArray), (⟨#[115, 49]⟩ : ByteArray), (⟨#[115, 50]⟩ : ByteArray)])).bind fun c15 =>
  some (c15.1, c15.2))
noncomputable def spec_l1Cur_event_o (a0 : l1CurT) : Option (EventT × l1CurT) :=
  ((spec_l1Cur_pick_o a0 20).bind fun c86 =>
  ((spec_l1Cur_pick_o c86.2 40).bind fun c87 =>
  ((spec_l1Cur_pick_o c87.2 6).bind fun c88 =>
  ((spec_l1Cur_of_ow c88.2 ([(⟨#[97]⟩ : ByteArray), (⟨#[98]⟩ : ByteArray), (⟨#[112, 97, 121]⟩ : ByteArray), ByteArray.empty, (⟨#[115, 104, 105, 112, 50]⟩ : ByteArray)])).bind fun c89 =>
  ((spec_l1Cur_pick_o c89.2 60).bind fun c90 =>
  (if (c90.1 == 0) = true then
    ((spec_l1Cur_among_ow c90.2 ([0, 1000, 1001])).bind fun c91 =>
    some ((⟨c91.1, c87.1, (wI (1 + c88.1)), c89.1⟩ : EventT), c91.2))
  else
    (if (c90.1 == 1) = true then
      ((spec_l1Cur_among_ow c90.2 ([0, 7])).bind fun c92 =>
      some ((⟨(wI (1 + c86.1)), c87.1, c92.1, c89.1⟩ : EventT), c92.2))
    else
      (if (c90.1 == 2) = true then
        ((spec_l1Cur_of_ow c90.2 ([(⟨#[65]⟩ : ByteArray), (⟨#[49, 50, 51, 52, 53, 54, 55, 56, 57, 48, 49, 50, 51]⟩ : ByteArray)])).bind fun c93 =>
        some ((⟨(wI (1 + c86.1)), c87.1, (wI (1 + c88.1)), c93.1⟩ : EventT), c93.2))
      else
        (if (c90.1 == 3) = true then
          ((spec_l1Cur_among_ow c90.2 ([(-1), 1000000, 1000001])).bind fun c94 =>
          some ((⟨(wI (1 + c86.1)), c94.1, (wI (1 + c88.1)), c89.1⟩ : EventT), c94.2))
        else
          some ((⟨(wI (1 + c86.1)), c87.1, (wI (1 + c88.1)), c89.1⟩ : EventT), c90.2))))))))))
structure spec_l1Cur_history_o_J3000 where
  b0_0 : (List Int)
  b0_1 : Int
  b0_2 : Int
  c1 : (List EventT)
structure spec_l1Cur_history_o_G1 where
  t5 : Int
  t6 : Int
  b0_0 : (List Int)
  b0_1 : Int
  b0_2 : Int
  c1 : (List EventT)
  b2_0 : Int
  b2_1 : Int
  b2_2 : Bool
  b2_3 : Int
  b2_4 : (List ByteArray)
  b2_5 : (List ByteArray)
structure spec_l1Cur_history_o_P1_0 where
  b0_0 : (List Int)
  b0_1 : Int
  b0_2 : Int
  c1 : (List EventT)
structure spec_l1Cur_history_o_J12038 where
  b3_2 : Int
structure spec_l1Cur_history_o_J14012 where
  t50 : Bool
  b0_0 : (List Int)
  b0_1 : Int
  b0_2 : Int
noncomputable def spec_l1Cur_history_o_L1 (g9 : spec_l1Cur_history_o_G1) : Option (spec_l1Cur_history_o_G1 ⊕ spec_l1Cur_history_o_P1_0) :=
  (if (decide (g9.t6 > 0)) = true then
    ((spec_l1Cur_pick_o (⟨g9.b0_0, g9.b0_1, g9.b0_2⟩ : l1CurT) 2).bind fun c73 =>
    ((spec_l1Cur_pick_o c73.2 3).bind fun c74 =>
    ((spec_l1Cur_among_ow c74.2 ([2, 2, 3, 4, 4, 5, 6])).bind fun c75 =>
    ((spec_l1Cur_eventName_o c75.2).bind fun c76 =>
    (((if (g9.b2_0 == 0) = true then
        some (⟨1⟩ : spec_l1Cur_history_o_J12038)
      else
        some (⟨c75.1⟩ : spec_l1Cur_history_o_J12038)) : Option spec_l1Cur_history_o_J12038).bind fun p77 =>
    ((spec_l12Apply (⟨g9.b2_0, g9.b2_1, g9.b2_2, g9.b2_3, g9.b2_4, g9.b2_5⟩ : StateT) (⟨g9.b2_1, (wI (g9.t5 + (wI (c73.1 * c74.1)))), p77.b3_2, c76.1⟩ : EventT)).bind fun c78 =>
    (((if c78.2 = true then
        some (⟨true, c76.2.code, c76.2.at_, c76.2.seed⟩ : spec_l1Cur_history_o_J14012)
      else
        ((spec_l1Cur_one_o c76.2 20).bind fun c79 =>
        some (⟨c79.1, c79.2.code, c79.2.at_, c79.2.seed⟩ : spec_l1Cur_history_o_J14012))) : Option spec_l1Cur_history_o_J14012).bind fun p80 =>
    (if p80.t50 = true then
      (guardO ((g9.c1.length + 1) * 40 ≤ 140737488355328) <|
      (if (p77.b3_2 == 6) = true then
        (if c78.2 = true then
          some (.inr (⟨p80.b0_0, p80.b0_1, p80.b0_2, (g9.c1 ++ ([(⟨g9.b2_1, (wI (g9.t5 + (wI (c73.1 * c74.1)))), p77.b3_2, c76.1⟩ : EventT)]))⟩))
        else
          some (.inl ⟨(wI (g9.t5 + (wI (c73.1 * c74.1)))), (wI (g9.t6 - 1)), p80.b0_0, p80.b0_1, p80.b0_2, (g9.c1 ++ ([(⟨g9.b2_1, (wI (g9.t5 + (wI (c73.1 * c74.1)))), p77.b3_2, c76.1⟩ : EventT)])), c78.1.Status, c78.1.Next, c78.1.Cancel, c78.1.Done, c78.1.Signals, c78.1.Timers⟩))
      else
        some (.inl ⟨(wI (g9.t5 + (wI (c73.1 * c74.1)))), (wI (g9.t6 - 1)), p80.b0_0, p80.b0_1, p80.b0_2, (g9.c1 ++ ([(⟨g9.b2_1, (wI (g9.t5 + (wI (c73.1 * c74.1)))), p77.b3_2, c76.1⟩ : EventT)])), c78.1.Status, c78.1.Next, c78.1.Cancel, c78.1.Done, c78.1.Signals, c78.1.Timers⟩)))
    else
      (if (p77.b3_2 == 6) = true then
        (if c78.2 = true then
          some (.inr (⟨p80.b0_0, p80.b0_1, p80.b0_2, g9.c1⟩))
        else
          some (.inl ⟨(wI (g9.t5 + (wI (c73.1 * c74.1)))), (wI (g9.t6 - 1)), p80.b0_0, p80.b0_1, p80.b0_2, g9.c1, g9.b2_0, g9.b2_1, g9.b2_2, g9.b2_3, g9.b2_4, g9.b2_5⟩))
      else
        some (.inl ⟨(wI (g9.t5 + (wI (c73.1 * c74.1)))), (wI (g9.t6 - 1)), p80.b0_0, p80.b0_1, p80.b0_2, g9.c1, g9.b2_0, g9.b2_1, g9.b2_2, g9.b2_3, g9.b2_4, g9.b2_5⟩))))))))))
  else
    some (.inr (⟨g9.b0_0, g9.b0_1, g9.b0_2, g9.c1⟩)))
structure spec_l1Cur_history_o_J4016 where
  t68 : Bool
  b0_0 : (List Int)
  b0_1 : Int
  b0_2 : Int
noncomputable def spec_l1Cur_history_o (a0 : l1CurT) : Option ((List EventT) × l1CurT) :=
  ((spec_NewState).bind fun c3 =>
  ((spec_l1Cur_pick_o a0 5).bind fun c7 =>
  ((((spec_l1Cur_pick_o c7.2 12).bind fun c8 =>
    ((loopF (spec_l1Cur_history_o_L1) ⟨c7.1, c8.1, c8.2.code, c8.2.at_, c8.2.seed, [], c3.Status, c3.Next, c3.Cancel, c3.Done, [], []⟩).bind fun y81 =>
    some (⟨y81.b0_0, y81.b0_1, y81.b0_2, y81.c1⟩ : spec_l1Cur_history_o_J3000))) : Option spec_l1Cur_history_o_J3000).bind fun p82 =>
  (((if (decide (((p82.c1.length : Nat) : Int) > 0)) = true then
      ((spec_l1Cur_one_o (⟨p82.b0_0, p82.b0_1, p82.b0_2⟩ : l1CurT) 20).bind fun c83 =>
      some (⟨c83.1, c83.2.code, c83.2.at_, c83.2.seed⟩ : spec_l1Cur_history_o_J4016))
    else
      some (⟨false, p82.b0_0, p82.b0_1, p82.b0_2⟩ : spec_l1Cur_history_o_J4016)) : Option spec_l1Cur_history_o_J4016).bind fun p84 =>
  (if p84.t68 = true then
    ((spec_l1Cur_pick_o (⟨p84.b0_0, p84.b0_1, p84.b0_2⟩ : l1CurT) ((p82.c1.length : Nat) : Int)).bind fun c85 =>
    ((spec_l1Cur_event_o c85.2).bind fun c95 =>
    (guardO (0 ≤ c85.1 ∧ c85.1 < ((p82.c1.length : Nat) : Int)) <|
    some ((p82.c1.set c85.1.toNat c95.1), c95.2))))
  else
    some (p82.c1, (⟨p84.b0_0, p84.b0_1, p84.b0_2⟩ : l1CurT)))))))
noncomputable def spec_l1Cur_runState_o (a0 : l1CurT) : Option (StateT × l1CurT) :=
  ((spec_l1Cur_history_o a0).bind fun c96 =>
  ((spec_l12Fold c96.1).bind fun c104 =>
  ((spec_l1Cur_pick_o c96.2 40).bind fun c105 =>
  (if (c105.1 == 0) = true then
    ((spec_l1Cur_among_ow c105.2 ([0, 1, 1001, 1002])).bind fun c106 =>
    some ((⟨c104.1.Status, c106.1, c104.1.Cancel, c104.1.Done, c104.1.Signals, c104.1.Timers⟩ : StateT), c106.2))
  else
    (if (c105.1 == 1) = true then
      ((spec_l1Cur_of_ow c105.2 ([(⟨#[97]⟩ : ByteArray), (⟨#[65]⟩ : ByteArray)])).bind fun c107 =>
      (guardO ((c104.1.Signals.length + 1) * 16 ≤ 140737488355328) <|
      some ((⟨c104.1.Status, c104.1.Next, c104.1.Cancel, c104.1.Done, (c104.1.Signals ++ ([c107.1])), c104.1.Timers⟩ : StateT), c107.2)))
    else
      (if (c105.1 == 2) = true then
        ((spec_l1Cur_pick_o c105.2 5).bind fun c108 =>
        some ((⟨(wI (c108.1 - 1)), c104.1.Next, c104.1.Cancel, c104.1.Done, c104.1.Signals, c104.1.Timers⟩ : StateT), c108.2))
      else
        some (c104.1, c105.2)))))))
noncomputable def spec_DrawApplyEvent (a0 : (List Int)) : Option (StateT × EventT) :=
  ((spec_l1Cur_runState_o (⟨a0, 0, 0⟩ : l1CurT)).bind fun c109 =>
  ((spec_l1Cur_pick_o c109.2 9).bind fun c110 =>
  ((spec_l1Cur_pick_o c110.2 6).bind fun c111 =>
  ((spec_l1Cur_eventName_o c111.2).bind fun c112 =>
  ((spec_l1Cur_one_o c112.2 12).bind fun c113 =>
  (if c113.1 = true then
    ((spec_l1Cur_event_o c113.2).bind fun c114 =>
    some (c109.1, c114.1))
  else
    some (c109.1, (⟨c109.1.Next, c110.1, (wI (1 + c111.1)), c112.1⟩ : EventT))))))))
noncomputable def spec_ApplyEvent (a0 : StateT) (a1 : EventT) : Option (StateT × Bool) :=
  ((spec_GoodState a0).bind fun c191 =>
  (if (!c191) = true then
    some ((⟨0, 0, false, 0, [], []⟩ : StateT), false)
  else
    ((spec_l12Apply a0 a1).bind fun c192 =>
    (if (!c192.2) = true then
      some ((⟨0, 0, false, 0, [], []⟩ : StateT), false)
    else
      some (c192.1, true)))))
noncomputable def laws_sameStates (a0 : StateT) (a1 : StateT) : Option Bool :=
  (if (a0.Status == a1.Status) = true then
    (if (a0.Next == a1.Next) = true then
      (if (a0.Cancel == a1.Cancel) = true then
        (if (a0.Done == a1.Done) = true then
          ((laws_sameTexts a0.Signals a1.Signals).bind fun c198 =>
          (if c198 = true then
            ((laws_sameTexts a0.Timers a1.Timers).bind fun c199 =>
            some c199)
          else
            some false))
        else
          some false)
      else
        some false)
    else
      some false)
  else
    some false)
structure impl_MayCome_J4001 where
  t21 : Bool
noncomputable def impl_MayCome (a0 : StateT) (a1 : Int) (a2 : ByteArray) : Option (Bool × Bool) :=
  ((((impl_GoodState a0).bind fun c207 =>
    (if (!c207) = true then
      some (⟨true⟩ : impl_MayCome_J4001)
    else
      ((impl_goodKind a1).bind fun c208 =>
      (if (!c208) = true then
        some (⟨true⟩ : impl_MayCome_J4001)
      else
        ((impl_goodName a2).bind fun c209 =>
        some (⟨(!c209)⟩ : impl_MayCome_J4001)))))) : Option impl_MayCome_J4001).bind fun p210 =>
  (if p210.t21 = true then
    some (false, false)
  else
    ((impl_cloneState a0).bind fun c211 =>
    ((impl_State_apply_o c211 a1 a2).bind fun c212 =>
    (if c212.1 = true then
      ((impl_GoodState c212.2).bind fun c213 =>
      some (c213, true))
    else
      some (false, true))))))
noncomputable def spec_DrawFoldEvents (a0 : (List Int)) : Option (List EventT) :=
  ((spec_l1Cur_history_o (⟨a0, 0, 0⟩ : l1CurT)).bind fun c219 =>
  some c219.1)
structure laws_FnStates_J4006 where
  t62 : Bool
structure laws_FnStates_J4008 where
  t75 : Bool
structure laws_FnStates_J4010 where
  t91 : Bool
structure laws_FnStates_J4012 where
  t105 : Bool
structure laws_FnStates_J4017 where
  t133 : Bool
structure laws_FnStates_G1 where
  t19 : Int
  b2_0 : Int
  b2_1 : Int
  b2_2 : Bool
  b2_3 : Int
  c5 : (List ByteArray)
  c6 : (List ByteArray)
structure laws_FnStates_P1_1 where
  b2_0 : Int
  b2_1 : Int
  b2_2 : Bool
  b2_3 : Int
  c5 : (List ByteArray)
  c6 : (List ByteArray)
noncomputable def laws_FnStates_L1 (c228 : (StateT × Int)) (c220 : (List EventT)) (g260 : laws_FnStates_G1) : Option (laws_FnStates_G1 ⊕ (Unit ⊕ laws_FnStates_P1_1)) :=
  (if (decide (g260.t19 < c228.2)) = true then
    (guardO (0 ≤ g260.t19 ∧ g260.t19 < ((c220.length : Nat) : Int)) <|
    ((impl_ApplyEvent (⟨g260.b2_0, g260.b2_1, g260.b2_2, g260.b2_3, g260.c5, g260.c6⟩ : StateT) (nth c220 g260.t19.toNat)).bind fun c262 =>
    (if (!c262.2) = true then
      some (.inr (.inl ()))
    else
      some (.inl ⟨(wI (g260.t19 + 1)), c262.1.Status, c262.1.Next, c262.1.Cancel, c262.1.Done, c262.1.Signals, c262.1.Timers⟩))))
  else
    some (.inr (.inr (⟨g260.b2_0, g260.b2_1, g260.b2_2, g260.b2_3, g260.c5, g260.c6⟩))))
noncomputable def laws_FnStates (a0 : (List Int)) (a1 : (List Int)) : Option Bool :=
  (if (decide ((wI (((a0.length : Nat) : Int) + ((a1.length : Nat) : Int))) > 1048576)) = true then
    some true
  else
    ((spec_DrawApplyEvent a0).bind fun c115 =>
    ((impl_ApplyEvent c115.1 c115.2).bind fun c190 =>
    ((spec_ApplyEvent c115.1 c115.2).bind fun c193 =>
    (((if (!(c190.2 == c193.2)) = true then
        some (⟨true⟩ : laws_FnStates_J4006)
      else
        ((laws_sameStates c190.1 c193.1).bind fun c200 =>
        (if (!c200) = true then
          some (⟨true⟩ : laws_FnStates_J4006)
        else
          ((impl_GoodState c115.1).bind fun c201 =>
          ((spec_GoodState c115.1).bind fun c202 =>
          some (⟨(!(c201 == c202))⟩ : laws_FnStates_J4006)))))) : Option laws_FnStates_J4006).bind fun p203 =>
    (if p203.t62 = true then
      some false
    else
      ((((((spec_GoodState c115.1).bind fun c204 =>
          (if c204 = true then
            ((spec_GoodEvent c115.2).bind fun c205 =>
            (if c205 = true then
              some (⟨(c115.2.Id == c115.1.Next)⟩ : laws_FnStates_J4008)
            else
              some (⟨false⟩ : laws_FnStates_J4008)))
          else
            some (⟨false⟩ : laws_FnStates_J4008))) : Option laws_FnStates_J4008).bind fun p206 =>
        (if p206.t75 = true then
          ((impl_MayCome c115.1 c115.2.Kind c115.2.Name).bind fun c214 =>
          (((if (!c214.2) = true then
              some (⟨true⟩ : laws_FnStates_J4010)
            else
              some (⟨(!(c214.1 == c190.2))⟩ : laws_FnStates_J4010)) : Option laws_FnStates_J4010).bind fun p215 =>
          (if p215.t91 = true then
            some (.inr false)
          else
            some (.inl (() : Unit)))))
        else
          some (.inl (() : Unit)))) : Option (Unit ⊕ Bool)).bind fun q => match q with
      | .inl p216 =>
        (((if c190.2 = true then
            ((impl_GoodState c190.1).bind fun c217 =>
            (if (!c217) = true then
              some (⟨true⟩ : laws_FnStates_J4012)
            else
              some (⟨(c190.1.Next != (wI (c115.1.Next + 1)))⟩ : laws_FnStates_J4012)))
          else
            some (⟨false⟩ : laws_FnStates_J4012)) : Option laws_FnStates_J4012).bind fun p218 =>
        (if p218.t105 = true then
          some false
        else
          ((spec_DrawFoldEvents a1).bind fun c220 =>
          ((impl_FoldEvents c220).bind fun c228 =>
          ((spec_FoldEvents_w c220).bind fun c238 =>
          (((if (c228.2 != c238.2) = true then
              some (⟨true⟩ : laws_FnStates_J4017)
            else
              ((laws_sameStates c228.1 c238.1).bind fun c239 =>
              (if (!c239) = true then
                some (⟨true⟩ : laws_FnStates_J4017)
              else
                ((impl_IsHistory c220).bind fun c248 =>
                ((spec_IsHistory c220).bind fun c257 =>
                some (⟨(!(c248 == c257))⟩ : laws_FnStates_J4017)))))) : Option laws_FnStates_J4017).bind fun p258 =>
          (if p258.t133 = true then
            some false
          else
            ((impl_NewState).bind fun c259 =>
            ((loopF (laws_FnStates_L1 c228 c220) ⟨0, c259.Status, c259.Next, c259.Cancel, c259.Done, [], []⟩).bind fun y263 =>
            match y263 with
            | .inl p264 =>
              some false
            | .inr p265 =>
              ((laws_sameStates (⟨p265.b2_0, p265.b2_1, p265.b2_2, p265.b2_3, p265.c5, p265.c6⟩ : StateT) c228.1).bind fun c266 =>
              (if (!c266) = true then
                some false
              else
                ((impl_SignalsIn c220).bind fun c269 =>
                ((impl_IsHistory c220).bind fun c270 =>
                (if (c269.2 == c270) = true then
                  (if (!c269.2) = true then
                    some true
                  else
                    ((laws_sameTexts c269.1 c228.1.Signals).bind fun c271 =>
                    some c271))
                else
                  some false))))))))))))))
      | .inr v => some v)))))))
end Go.TL

import Derived.Test.YtmooampfjclmiaaDoorPlR4Z
set_option linter.unusedSimpArgs false
set_option linter.unusedVariables false
namespace Go.TL
structure spec_EventsIn_G1 where
  t4 : Int
  t18 : Int
structure spec_EventsIn_P1_0 where
  t4 : Int
structure spec_EventsIn_G2 where
  t7 : Int
  t28 : Int
structure spec_EventsIn_P2_0 where
  t7 : Int
noncomputable def spec_EventsIn_L2 (a0 : TellingsT) (g131 : spec_EventsIn_G1) (g136 : spec_EventsIn_G2) : Option (spec_EventsIn_G2 ⊕ spec_EventsIn_P2_0) :=
  (if (decide (g136.t28 < (((a0.Branches.take g131.t18.toNat).length : Nat) : Int))) = true then
    (guardO (0 ≤ g136.t28 ∧ g136.t28 < ((a0.Branches.take g131.t18.toNat).length : Int)) <|
    ((spec_l15Compare ((nth (a0.Branches.take g131.t18.toNat) g136.t28.toNat).Events) ((nth a0.Branches g131.t18.toNat).Events)).bind fun c138 =>
    (if (decide (c138.2 > g136.t7)) = true then
      some (.inl ⟨c138.2, (wI (g136.t28 + 1))⟩)
    else
      some (.inl ⟨g136.t7, (wI (g136.t28 + 1))⟩))))
  else
    some (.inr (⟨g136.t7⟩)))
noncomputable def spec_EventsIn_L1 (a0 : TellingsT) (g131 : spec_EventsIn_G1) : Option (spec_EventsIn_G1 ⊕ spec_EventsIn_P1_0) :=
  (if (decide (g131.t18 < ((a0.Branches.length : Nat) : Int))) = true then
    (guardO (0 ≤ g131.t18 ∧ g131.t18 < (a0.Branches.length : Int)) <|
    (guardO (0 ≤ g131.t18 ∧ g131.t18 ≤ (a0.Branches.length : Int)) <|
    ((loopF (spec_EventsIn_L2 a0 g131) ⟨0, 0⟩).bind fun y139 =>
    some (.inl ⟨(wI (g131.t4 + (wI (((((nth a0.Branches g131.t18.toNat).Events).length : Nat) : Int) - y139.t7)))), (wI (g131.t18 + 1))⟩))))
  else
    some (.inr (⟨g131.t4⟩)))
noncomputable def spec_EventsIn (a0 : TellingsT) : Option (Int × Bool) :=
  ((spec_GoodTellings a0).bind fun c130 =>
  (if (!c130) = true then
    some (0, false)
  else
    ((loopF (spec_EventsIn_L1 a0) ⟨0, 0⟩).bind fun y140 =>
    some (y140.t4, true))))
structure impl_EventsIn_G1 where
  t4 : Int
  t16 : Int
structure impl_EventsIn_P1_0 where
  t4 : Int
structure impl_EventsIn_G2 where
  t7 : Int
  t26 : Int
structure impl_EventsIn_P2_0 where
  t7 : Int
noncomputable def impl_EventsIn_L2 (a0 : TellingsT) (g284 : impl_EventsIn_G1) (g291 : impl_EventsIn_G2) : Option (impl_EventsIn_G2 ⊕ impl_EventsIn_P2_0) :=
  (if (decide (g291.t26 < (((a0.Branches.take g284.t16.toNat).length : Nat) : Int))) = true then
    (guardO (0 ≤ g291.t26 ∧ g291.t26 < ((a0.Branches.take g284.t16.toNat).length : Int)) <|
    ((impl_shared ((nth a0.Branches g284.t16.toNat).Events) ((nth (a0.Branches.take g284.t16.toNat) g291.t26.toNat).Events)).bind fun c293 =>
    some (.inl ⟨(max g291.t7 c293), (wI (g291.t26 + 1))⟩)))
  else
    some (.inr (⟨g291.t7⟩)))
noncomputable def impl_EventsIn_L1 (a0 : TellingsT) (g284 : impl_EventsIn_G1) : Option (impl_EventsIn_G1 ⊕ impl_EventsIn_P1_0) :=
  (if (decide (g284.t16 < ((a0.Branches.length : Nat) : Int))) = true then
    (guardO (0 ≤ g284.t16 ∧ g284.t16 < (a0.Branches.length : Int)) <|
    (guardO (0 ≤ g284.t16 ∧ g284.t16 ≤ (a0.Branches.length : Int)) <|
    ((loopF (impl_EventsIn_L2 a0 g284) ⟨0, 0⟩).bind fun y294 =>
    some (.inl ⟨(wI (g284.t4 + (wI (((((nth a0.Branches g284.t16.toNat).Events).length : Nat) : Int) - y294.t7)))), (wI (g284.t16 + 1))⟩))))
  else
    some (.inr (⟨g284.t4⟩)))
noncomputable def impl_EventsIn (a0 : TellingsT) : Option (Int × Bool) :=
  ((impl_GoodTellings a0).bind fun c283 =>
  (if (!c283) = true then
    some (0, false)
  else
    ((loopF (impl_EventsIn_L1 a0) ⟨0, 0⟩).bind fun y295 =>
    some (y295.t4, true))))
structure laws_FnExactEventsIn_J4008 where
  t34 : Bool
noncomputable def laws_FnExactEventsIn (a0 : TellingsT) : Option Bool :=
  ((laws_szTellings a0 1048576).bind fun c15 =>
  (if (decide (c15 < 0)) = true then
    some true
  else
    ((laws_toTellings a0).bind fun c29 =>
    ((spec_EventsIn c29).bind fun c141 =>
    ((laws_toTellings a0).bind fun c142 =>
    ((impl_EventsIn c142).bind fun c296 =>
    (((if (c296.1 != c141.1) = true then
        some (⟨true⟩ : laws_FnExactEventsIn_J4008)
      else
        some (⟨(!(c296.2 == c141.2))⟩ : laws_FnExactEventsIn_J4008)) : Option laws_FnExactEventsIn_J4008).bind fun p297 =>
    (if p297.t34 = true then
      some false
    else
      ((laws_toTellings a0).bind fun c298 =>
      ((laws_eqTellings c142 c298).bind fun c313 =>
      (if (!c313) = true then
        some false
      else
        some true)))))))))))
end Go.TL

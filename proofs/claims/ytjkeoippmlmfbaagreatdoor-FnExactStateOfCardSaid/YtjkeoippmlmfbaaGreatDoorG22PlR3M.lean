import Derived.Test.YtjkeoippmlmfbaaGreatDoorG20PlR1
import Derived.Test.YtjkeoippmlmfbaaGreatDoorPlSort
set_option linter.unusedSimpArgs false
set_option linter.unusedVariables false
namespace Go.TL
end Go.TL
namespace Go.TL
structure RegionT where
  Id : Int
  Version : Int
  Tellings : TellingsT
  deriving DecidableEq, Inhabited
noncomputable def laws_szRegion (a0 : RegionT) (a1 : Int) : Option Int :=
  ((laws_szTellings a0.Tellings a1).bind fun c15 =>
  (if (decide (c15 < 0)) = true then
    some (-1)
  else
    some c15))
noncomputable def laws_toRegion (a0 : RegionT) : Option RegionT :=
  ((laws_toTellings a0.Tellings).bind fun c30 =>
  some (⟨a0.Id, a0.Version, c30⟩ : RegionT))
structure spec_GoodRegion_J4001 where
  t22 : Bool
structure spec_GoodRegion_G1 where
  t27 : Int
structure spec_GoodRegion_G2 where
  t34 : Int
noncomputable def spec_GoodRegion_L2 (a0 : RegionT) (g137 : spec_GoodRegion_G1) (g142 : spec_GoodRegion_G2) : Option (spec_GoodRegion_G2 ⊕ (Unit ⊕ Unit)) :=
  (if (decide (g142.t34 < ((((nth a0.Tellings.Branches g137.t27.toNat).Events).length : Nat) : Int))) = true then
    (guardO (0 ≤ g142.t34 ∧ g142.t34 < (((nth a0.Tellings.Branches g137.t27.toNat).Events).length : Int)) <|
    (if (decide (((nth ((nth a0.Tellings.Branches g137.t27.toNat).Events) g142.t34.toNat).Version) > a0.Version)) = true then
      some (.inr (.inl ()))
    else
      some (.inl ⟨(wI (g142.t34 + 1))⟩)))
  else
    some (.inr (.inr ())))
noncomputable def spec_GoodRegion_L1 (a0 : RegionT) (g137 : spec_GoodRegion_G1) : Option (spec_GoodRegion_G1 ⊕ (Unit ⊕ Unit)) :=
  (if (decide (g137.t27 < ((a0.Tellings.Branches.length : Nat) : Int))) = true then
    (guardO (0 ≤ g137.t27 ∧ g137.t27 < (a0.Tellings.Branches.length : Int)) <|
    ((loopF (spec_GoodRegion_L2 a0 g137) ⟨0⟩).bind fun y143 =>
    match y143 with
    | .inl p144 =>
      some (.inr (.inl ()))
    | .inr p145 =>
      some (.inl ⟨(wI (g137.t27 + 1))⟩)))
  else
    some (.inr (.inr ())))
noncomputable def spec_GoodRegion (a0 : RegionT) : Option Bool :=
  ((((spec_l1In a0.Id 0 9).bind fun c32 =>
    (if (!c32) = true then
      some (⟨true⟩ : spec_GoodRegion_J4001)
    else
      ((spec_l13Version a0.Version).bind fun c34 =>
      (if (!c34) = true then
        some (⟨true⟩ : spec_GoodRegion_J4001)
      else
        ((spec_GoodTellings a0.Tellings).bind fun c135 =>
        some (⟨(!c135)⟩ : spec_GoodRegion_J4001)))))) : Option spec_GoodRegion_J4001).bind fun p136 =>
  (if p136.t22 = true then
    some false
  else
    ((loopF (spec_GoodRegion_L1 a0) ⟨0⟩).bind fun y146 =>
    match y146 with
    | .inl p147 =>
      some false
    | .inr p148 =>
      some true)))
noncomputable def impl_wordOk_c1_c1_r (a0 : EventT) (a1 : Int) : Option Bool :=
  some (decide (a0.Version > a1))
structure slices_IndexFunc_impl_Event_impl_wordOk_c1_c1r_G1 where
  t8 : Int
structure slices_IndexFunc_impl_Event_impl_wordOk_c1_c1r_P1_0 where
  t4 : Int
noncomputable def slices_IndexFunc_impl_Event_impl_wordOk_c1_c1r_L1 (a0 : (List EventT)) (a1 : Int) (g297 : slices_IndexFunc_impl_Event_impl_wordOk_c1_c1r_G1) : Option (slices_IndexFunc_impl_Event_impl_wordOk_c1_c1r_G1 ⊕ (slices_IndexFunc_impl_Event_impl_wordOk_c1_c1r_P1_0 ⊕ Unit)) :=
  (if (decide (g297.t8 < ((a0.length : Nat) : Int))) = true then
    (guardO (0 ≤ g297.t8 ∧ g297.t8 < (a0.length : Int)) <|
    ((impl_wordOk_c1_c1_r (nth a0 g297.t8.toNat) a1).bind fun c299 =>
    (if c299 = true then
      some (.inr (.inl (⟨g297.t8⟩)))
    else
      some (.inl ⟨(wI (g297.t8 + 1))⟩))))
  else
    some (.inr (.inr ())))
noncomputable def slices_IndexFunc_impl_Event_impl_wordOk_c1_c1r (a0 : (List EventT)) (a1 : Int) : Option Int :=
  ((loopF (slices_IndexFunc_impl_Event_impl_wordOk_c1_c1r_L1 a0 a1) ⟨0⟩).bind fun y300 =>
  match y300 with
  | .inl p301 =>
    some p301.t4
  | .inr p302 =>
    some (-1))
noncomputable def slices_ContainsFunc_impl_Event_impl_wordOk_c1_c1r (a0 : (List EventT)) (a1 : Int) : Option Bool :=
  ((slices_IndexFunc_impl_Event_impl_wordOk_c1_c1r a0 a1).bind fun c303 =>
  some (decide (c303 ≥ 0)))
noncomputable def impl_wordOk_c1_r (a0 : BranchT) (a1 : Int) : Option Bool :=
  ((slices_ContainsFunc_impl_Event_impl_wordOk_c1_c1r a0.Events a1).bind fun c304 =>
  some c304)
structure slices_IndexFunc_impl_Branch_impl_wordOk_c1r_G1 where
  t8 : Int
structure slices_IndexFunc_impl_Branch_impl_wordOk_c1r_P1_0 where
  t4 : Int
noncomputable def slices_IndexFunc_impl_Branch_impl_wordOk_c1r_L1 (a0 : (List BranchT)) (a1 : Int) (g296 : slices_IndexFunc_impl_Branch_impl_wordOk_c1r_G1) : Option (slices_IndexFunc_impl_Branch_impl_wordOk_c1r_G1 ⊕ (slices_IndexFunc_impl_Branch_impl_wordOk_c1r_P1_0 ⊕ Unit)) :=
  (if (decide (g296.t8 < ((a0.length : Nat) : Int))) = true then
    (guardO (0 ≤ g296.t8 ∧ g296.t8 < (a0.length : Int)) <|
    ((impl_wordOk_c1_r (nth a0 g296.t8.toNat) a1).bind fun c306 =>
    (if c306 = true then
      some (.inr (.inl (⟨g296.t8⟩)))
    else
      some (.inl ⟨(wI (g296.t8 + 1))⟩))))
  else
    some (.inr (.inr ())))
noncomputable def slices_IndexFunc_impl_Branch_impl_wordOk_c1r (a0 : (List BranchT)) (a1 : Int) : Option Int :=
  ((loopF (slices_IndexFunc_impl_Branch_impl_wordOk_c1r_L1 a0 a1) ⟨0⟩).bind fun y307 =>
  match y307 with
  | .inl p308 =>
    some p308.t4
  | .inr p309 =>
    some (-1))
noncomputable def slices_ContainsFunc_impl_Branch_impl_wordOk_c1r (a0 : (List BranchT)) (a1 : Int) : Option Bool :=
  ((slices_IndexFunc_impl_Branch_impl_wordOk_c1r a0 a1).bind fun c310 =>
  some (decide (c310 ≥ 0)))
structure impl_wordOk_J4001 where
  t12 : Bool
noncomputable def impl_wordOk (a0 : Int) (a1 : TellingsT) : Option Bool :=
  ((((impl_isVersion a0).bind fun c154 =>
    (if (!c154) = true then
      some (⟨true⟩ : impl_wordOk_J4001)
    else
      ((impl_GoodTellings a1).bind fun c294 =>
      some (⟨(!c294)⟩ : impl_wordOk_J4001)))) : Option impl_wordOk_J4001).bind fun p295 =>
  (if p295.t12 = true then
    some false
  else
    ((slices_ContainsFunc_impl_Branch_impl_wordOk_c1r a1.Branches a0).bind fun c311 =>
    some (!c311))))
noncomputable def impl_GoodRegion (a0 : RegionT) : Option Bool :=
  ((impl_isRegion a0.Id).bind fun c152 =>
  (if c152 = true then
    ((impl_wordOk a0.Version a0.Tellings).bind fun c312 =>
    some c312)
  else
    some false))
noncomputable def laws_eqRegion (a0 : RegionT) (a1 : RegionT) : Option Bool :=
  (if (a0.Id != a1.Id) = true then
    some false
  else
    (if (a0.Version != a1.Version) = true then
      some false
    else
      ((laws_eqTellings a0.Tellings a1.Tellings).bind fun c329 =>
      (if (!c329) = true then
        some false
      else
        some true))))
structure WordT where
  Version : Int
  Tellings : TellingsT
  deriving DecidableEq, Inhabited
structure SaidT where
  To : Int
  Word : WordT
  deriving DecidableEq, Inhabited
end Go.TL
namespace Go.TL
end Go.TL
namespace Go.TL
end Go.TL
namespace Go.TL
end Go.TL
namespace Go.TL
structure MoveT where
  From : Int
  To : Int
  Many : Int
  deriving DecidableEq, Inhabited
end Go.TL
namespace Go.TL
structure spec_l15Current_G1 where
  t3 : Int
  t11 : Int
structure spec_l15Current_P1_0 where
  t3 : Int
structure spec_l15Current_J4010 where
  t55 : Bool
noncomputable def spec_l15Current_L1 (a0 : (List BranchT)) (g128 : spec_l15Current_G1) : Option (spec_l15Current_G1 ⊕ spec_l15Current_P1_0) :=
  (if (decide (g128.t11 < ((a0.length : Nat) : Int))) = true then
    (guardO (0 ≤ g128.t11 ∧ g128.t11 < (a0.length : Int)) <|
    (if (decide (g128.t3 < 0)) = true then
      some (.inl ⟨g128.t11, (wI (g128.t11 + 1))⟩)
    else
      (guardO (0 ≤ g128.t3 ∧ g128.t3 < (a0.length : Int)) <|
      (guardO (0 ≤ (wI (((((nth a0 g128.t11.toNat).Events).length : Nat) : Int) - 1)) ∧ (wI (((((nth a0 g128.t11.toNat).Events).length : Nat) : Int) - 1)) < (((nth a0 g128.t11.toNat).Events).length : Int)) <|
      (guardO (0 ≤ (wI (((((nth a0 g128.t3.toNat).Events).length : Nat) : Int) - 1)) ∧ (wI (((((nth a0 g128.t3.toNat).Events).length : Nat) : Int) - 1)) < (((nth a0 g128.t3.toNat).Events).length : Int)) <|
      (((if (decide (((nth ((nth a0 g128.t11.toNat).Events) ((wI (((((nth a0 g128.t11.toNat).Events).length : Nat) : Int) - 1)).toNat)).Version) > ((nth ((nth a0 g128.t3.toNat).Events) ((wI (((((nth a0 g128.t3.toNat).Events).length : Nat) : Int) - 1)).toNat)).Version))) = true then
          some (⟨true⟩ : spec_l15Current_J4010)
        else
          (if (((nth ((nth a0 g128.t11.toNat).Events) ((wI (((((nth a0 g128.t11.toNat).Events).length : Nat) : Int) - 1)).toNat)).Version) == ((nth ((nth a0 g128.t3.toNat).Events) ((wI (((((nth a0 g128.t3.toNat).Events).length : Nat) : Int) - 1)).toNat)).Version)) = true then
            some (⟨(decide (((((nth a0 g128.t11.toNat).Events).length : Nat) : Int) ≥ ((((nth a0 g128.t3.toNat).Events).length : Nat) : Int)))⟩ : spec_l15Current_J4010)
          else
            some (⟨false⟩ : spec_l15Current_J4010))) : Option spec_l15Current_J4010).bind fun p129 =>
      (if p129.t55 = true then
        some (.inl ⟨g128.t11, (wI (g128.t11 + 1))⟩)
      else
        some (.inl ⟨g128.t3, (wI (g128.t11 + 1))⟩))))))))
  else
    some (.inr (⟨g128.t3⟩)))
noncomputable def spec_l15Current (a0 : (List BranchT)) : Option Int :=
  ((loopF (spec_l15Current_L1 a0) ⟨(-1), 0⟩).bind fun y130 =>
  some y130.t3)
noncomputable def impl_version (a0 : (List EventT)) : Option Int :=
  (guardO (0 ≤ (wI (((a0.length : Nat) : Int) - 1)) ∧ (wI (((a0.length : Nat) : Int) - 1)) < (a0.length : Int)) <|
  some ((nth a0 ((wI (((a0.length : Nat) : Int) - 1)).toNat)).Version))
noncomputable def impl_current_c1 (a0 : BranchT) (a1 : BranchT) : Option Int :=
  ((impl_version a0.Events).bind fun c275 =>
  ((impl_version a1.Events).bind fun c276 =>
  ((cmp_Compare_int c275 c276).bind fun c277 =>
  ((cmp_Compare_int ((a0.Events.length : Nat) : Int) ((a1.Events.length : Nat) : Int)).bind fun c278 =>
  ((impl_branchOrder a0.Events a1.Events).bind fun c279 =>
  ((cmp_Or_int ([c277, c278, c279])).bind fun c280 =>
  some c280))))))
structure slices_MaxFunc_impl_Branch_impl_current_c1_G1 where
  t6 : Int
  b1_0 : (List EventT)
structure slices_MaxFunc_impl_Branch_impl_current_c1_P1_0 where
  b1_0 : (List EventT)
noncomputable def slices_MaxFunc_impl_Branch_impl_current_c1_L1 (a0 : (List BranchT)) (g274 : slices_MaxFunc_impl_Branch_impl_current_c1_G1) : Option (slices_MaxFunc_impl_Branch_impl_current_c1_G1 ⊕ slices_MaxFunc_impl_Branch_impl_current_c1_P1_0) :=
  (if (decide (g274.t6 < ((a0.length : Nat) : Int))) = true then
    (guardO (0 ≤ g274.t6 ∧ g274.t6 < (a0.length : Int)) <|
    ((impl_current_c1 (nth a0 g274.t6.toNat) (⟨g274.b1_0⟩ : BranchT)).bind fun c282 =>
    (if (decide (c282 > 0)) = true then
      (guardO (0 ≤ g274.t6 ∧ g274.t6 < (a0.length : Int)) <|
      some (.inl ⟨(wI (g274.t6 + 1)), (nth a0 g274.t6.toNat).Events⟩))
    else
      some (.inl ⟨(wI (g274.t6 + 1)), g274.b1_0⟩))))
  else
    some (.inr (⟨g274.b1_0⟩)))
noncomputable def slices_MaxFunc_impl_Branch_impl_current_c1 (a0 : (List BranchT)) : Option BranchT :=
  (((if (decide (((a0.length : Nat) : Int) < 1)) = true then
      none
    else
      some (() : Unit)) : Option Unit).bind fun p273 =>
  (guardO (0 < (a0.length : Int)) <|
  ((loopF (slices_MaxFunc_impl_Branch_impl_current_c1_L1 a0) ⟨1, (nth a0 0).Events⟩).bind fun y283 =>
  some (⟨y283.b1_0⟩ : BranchT))))
noncomputable def impl_current (a0 : TellingsT) : Option (List EventT) :=
  (if (((a0.Branches.length : Nat) : Int) == 0) = true then
    some ([])
  else
    ((slices_MaxFunc_impl_Branch_impl_current_c1 a0.Branches).bind fun c284 =>
    some c284.Events))
structure laws_markBranchS_wd_G1 where
  t1 : Int
  t5 : Int
  c0 : (List BranchT)
structure laws_markBranchS_wd_P1_0 where
  t1 : Int
  c0 : (List BranchT)
noncomputable def laws_markBranchS_wd_L1 (g309 : laws_markBranchS_wd_G1) : Option (laws_markBranchS_wd_G1 ⊕ laws_markBranchS_wd_P1_0) :=
  (if (decide (g309.t5 < ((g309.c0.length : Nat) : Int))) = true then
    (guardO (g309.t5.toNat < g309.c0.length) <|
    (guardO (0 ≤ g309.t5 ∧ g309.t5 < ((g309.c0.length : Nat) : Int)) <|
    ((laws_markEventS_w ((nth g309.c0 g309.t5.toNat).Events) g309.t1).bind fun c317 =>
    (guardO (c317.2.length = ((nth g309.c0 g309.t5.toNat).Events).length) <|
    some (.inl ⟨c317.1, (wI (g309.t5 + 1)), (g309.c0.set g309.t5.toNat (⟨c317.2⟩ : BranchT))⟩)))))
  else
    some (.inr (⟨g309.t1, g309.c0⟩)))
noncomputable def laws_markBranchS_wd (a0 : (List BranchT)) (a1 : Int) : Option (Int × (List BranchT)) :=
  ((loopF (laws_markBranchS_wd_L1) ⟨a1, 0, a0⟩).bind fun y318 =>
  some (y318.t1, y318.c0))
noncomputable def laws_markTellings_wd (a0 : TellingsT) (a1 : Int) : Option (Int × (List BranchT)) :=
  ((laws_markBranchS_wd a0.Branches a1).bind fun c319 =>
  (guardO (c319.2.length = a0.Branches.length) <|
  some (c319.1, c319.2)))
noncomputable def laws_markRegion_wd (a0 : RegionT) (a1 : Int) : Option (Int × (List BranchT)) :=
  ((laws_markTellings_wd a0.Tellings a1).bind fun c410 =>
  (guardO (c410.2.length = a0.Tellings.Branches.length) <|
  some (c410.1, c410.2)))
noncomputable def spec_l16History (a0 : RegionT) : Option (List EventT) :=
  ((spec_l15Current a0.Tellings.Branches).bind fun c433 =>
  (if (decide (c433 < 0)) = true then
    some ([])
  else
    (guardO (0 ≤ c433 ∧ c433 < (a0.Tellings.Branches.length : Int)) <|
    some ((nth a0.Tellings.Branches c433.toNat).Events))))
noncomputable def spec_StateOf (a0 : RegionT) : Option (StateT × Bool) :=
  ((spec_GoodRegion a0).bind fun c432 =>
  (if (!c432) = true then
    some ((⟨0, 0, false, 0, [], []⟩ : StateT), false)
  else
    ((spec_l16History a0).bind fun c434 =>
    ((spec_l12Fold c434).bind fun c435 =>
    ((spec_l12Own c435.1).bind fun c436 =>
    some (c436, true))))))
noncomputable def impl_Region_state_r (a0 : RegionT) : Option StateT :=
  ((impl_current a0.Tellings).bind fun c440 =>
  ((impl_FoldEvents c440).bind fun c441 =>
  some c441.1))
noncomputable def impl_StateOf (a0 : RegionT) : Option (StateT × Bool) :=
  ((impl_GoodRegion a0).bind fun c439 =>
  (if (!c439) = true then
    some ((⟨0, 0, false, 0, [], []⟩ : StateT), false)
  else
    ((impl_Region_state_r a0).bind fun c442 =>
    some (c442, true))))
structure laws_FnExactStateOf_J4008 where
  t40 : Bool
structure laws_FnExactStateOf_J4014 where
  t61 : Bool
structure laws_FnExactStateOf_J4025 where
  t87 : Bool
noncomputable def laws_FnExactStateOf (a0 : RegionT) : Option Bool :=
  ((laws_szRegion a0 1048576).bind fun c430 =>
  (if (decide (c430 < 0)) = true then
    some true
  else
    ((laws_toRegion a0).bind fun c431 =>
    ((spec_StateOf c431).bind fun c437 =>
    ((laws_toRegion a0).bind fun c438 =>
    ((impl_StateOf c438).bind fun c443 =>
    ((((laws_eqState c443.1 c437.1).bind fun c450 =>
      (if (!c450) = true then
        some (⟨true⟩ : laws_FnExactStateOf_J4008)
      else
        some (⟨(!(c443.2 == c437.2))⟩ : laws_FnExactStateOf_J4008))) : Option laws_FnExactStateOf_J4008).bind fun p451 =>
    (if p451.t40 = true then
      some false
    else
      ((laws_toRegion a0).bind fun c452 =>
      ((laws_eqRegion c438 c452).bind fun c453 =>
      (if (!c453) = true then
        some false
      else
        ((laws_markRegion_wd c438 1).bind fun c454 =>
        (guardO (c454.2.length = c438.Tellings.Branches.length) <|
        (((if (decide (c454.1 < 0)) = true then
            some (⟨true⟩ : laws_FnExactStateOf_J4014)
          else
            ((laws_eqState c443.1 c437.1).bind fun c455 =>
            (if (!c455) = true then
              some (⟨true⟩ : laws_FnExactStateOf_J4014)
            else
              some (⟨(!(c443.2 == c437.2))⟩ : laws_FnExactStateOf_J4014)))) : Option laws_FnExactStateOf_J4014).bind fun p456 =>
        (if p456.t61 = true then
          some false
        else
          ((laws_markState_ww c443.1 1).bind fun c465 =>
          (guardO (c465.2.1.length = c443.1.Signals.length) <|
          (guardO (c465.2.2.length = c443.1.Timers.length) <|
          ((laws_heldState (⟨c443.1.Status, c443.1.Next, c443.1.Cancel, c443.1.Done, c465.2.1, c465.2.2⟩ : StateT) 1).bind fun c474 =>
          (if (decide (c474 < 0)) = true then
            some false
          else
            (if (c474 != c465.1) = true then
              some false
            else
              ((laws_toRegion a0).bind fun c475 =>
              ((impl_StateOf c475).bind fun c476 =>
              ((((laws_eqState c476.1 c437.1).bind fun c477 =>
                (if (!c477) = true then
                  some (⟨true⟩ : laws_FnExactStateOf_J4025)
                else
                  some (⟨(!(c476.2 == c437.2))⟩ : laws_FnExactStateOf_J4025))) : Option laws_FnExactStateOf_J4025).bind fun p478 =>
              (if p478.t87 = true then
                some false
              else
                ((laws_heldState (⟨c443.1.Status, c443.1.Next, c443.1.Cancel, c443.1.Done, c465.2.1, c465.2.2⟩ : StateT) 1).bind fun c479 =>
                (if (decide (c479 < 0)) = true then
                  some false
                else
                  (if (c479 != c465.1) = true then
                    some false
                  else
                    some true))))))))))))))))))))))))))))
end Go.TL

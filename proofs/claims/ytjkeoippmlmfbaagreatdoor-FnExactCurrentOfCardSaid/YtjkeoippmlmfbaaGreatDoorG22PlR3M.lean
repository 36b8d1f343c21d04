import Derived.Test.YtjkeoippmlmfbaaGreatDoorG20PlR1
import Derived.Test.YtjkeoippmlmfbaaGreatDoorPlSort
set_option linter.unusedSimpArgs false
set_option linter.unusedVariables false
namespace Go.TL
end Go.TL
namespace Go.TL
structure RegionT where
  Id : Int
  Version : Int
  Tellings : TellingsT
  deriving DecidableEq, Inhabited
structure WordT where
  Version : Int
  Tellings : TellingsT
  deriving DecidableEq, Inhabited
structure SaidT where
  To : Int
  Word : WordT
  deriving DecidableEq, Inhabited
end Go.TL
namespace Go.TL
end Go.TL
namespace Go.TL
end Go.TL
namespace Go.TL
end Go.TL
namespace Go.TL
structure MoveT where
  From : Int
  To : Int
  Many : Int
  deriving DecidableEq, Inhabited
end Go.TL
namespace Go.TL
structure spec_l15Current_G1 where
  t3 : Int
  t11 : Int
structure spec_l15Current_P1_0 where
  t3 : Int
structure spec_l15Current_J4010 where
  t55 : Bool
noncomputable def spec_l15Current_L1 (a0 : (List BranchT)) (g128 : spec_l15Current_G1) : Option (spec_l15Current_G1 ⊕ spec_l15Current_P1_0) :=
  (if (decide (g128.t11 < ((a0.length : Nat) : Int))) = true then
    (guardO (0 ≤ g128.t11 ∧ g128.t11 < (a0.length : Int)) <|
    (if (decide (g128.t3 < 0)) = true then
      some (.inl ⟨g128.t11, (wI (g128.t11 + 1))⟩)
    else
      (guardO (0 ≤ g128.t3 ∧ g128.t3 < (a0.length : Int)) <|
      (guardO (0 ≤ (wI (((((nth a0 g128.t11.toNat).Events).length : Nat) : Int) - 1)) ∧ (wI (((((nth a0 g128.t11.toNat).Events).length : Nat) : Int) - 1)) < (((nth a0 g128.t11.toNat).Events).length : Int)) <|
      (guardO (0 ≤ (wI (((((nth a0 g128.t3.toNat).Events).length : Nat) : Int) - 1)) ∧ (wI (((((nth a0 g128.t3.toNat).Events).length : Nat) : Int) - 1)) < (((nth a0 g128.t3.toNat).Events).length : Int)) <|
      (((if (decide (((nth ((nth a0 g128.t11.toNat).Events) ((wI (((((nth a0 g128.t11.toNat).Events).length : Nat) : Int) - 1)).toNat)).Version) > ((nth ((nth a0 g128.t3.toNat).Events) ((wI (((((nth a0 g128.t3.toNat).Events).length : Nat) : Int) - 1)).toNat)).Version))) = true then
          some (⟨true⟩ : spec_l15Current_J4010)
        else
          (if (((nth ((nth a0 g128.t11.toNat).Events) ((wI (((((nth a0 g128.t11.toNat).Events).length : Nat) : Int) - 1)).toNat)).Version) == ((nth ((nth a0 g128.t3.toNat).Events) ((wI (((((nth a0 g128.t3.toNat).Events).length : Nat) : Int) - 1)).toNat)).Version)) = true then
            some (⟨(decide (((((nth a0 g128.t11.toNat).Events).length : Nat) : Int) ≥ ((((nth a0 g128.t3.toNat).Events).length : Nat) : Int)))⟩ : spec_l15Current_J4010)
          else
            some (⟨false⟩ : spec_l15Current_J4010))) : Option spec_l15Current_J4010).bind fun p129 =>
      (if p129.t55 = true then
        some (.inl ⟨g128.t11, (wI (g128.t11 + 1))⟩)
      else
        some (.inl ⟨g128.t3, (wI (g128.t11 + 1))⟩))))))))
  else
    some (.inr (⟨g128.t3⟩)))
noncomputable def spec_l15Current (a0 : (List BranchT)) : Option Int :=
  ((loopF (spec_l15Current_L1 a0) ⟨(-1), 0⟩).bind fun y130 =>
  some y130.t3)
noncomputable def spec_l15OwnEvents (a0 : (List EventT)) : Option (List EventT) :=
  (guardO (a0.length * 40 ≤ 140737488355328) <|
  some (([]) ++ a0))
structure spec_CurrentOf_J2006 where
  t4 : Int
noncomputable def spec_CurrentOf (a0 : TellingsT) : Option ((List EventT) × Bool) :=
  ((((spec_GoodTellings a0).bind fun c127 =>
    (if c127 = true then
      ((spec_l15Current a0.Branches).bind fun c131 =>
      some (⟨c131⟩ : spec_CurrentOf_J2006))
    else
      some (⟨(-1)⟩ : spec_CurrentOf_J2006))) : Option spec_CurrentOf_J2006).bind fun p132 =>
  (if (decide (p132.t4 < 0)) = true then
    some ([], false)
  else
    (guardO (0 ≤ p132.t4 ∧ p132.t4 < (a0.Branches.length : Int)) <|
    ((spec_l15OwnEvents ((nth a0.Branches p132.t4.toNat).Events)).bind fun c133 =>
    some (c133, true)))))
noncomputable def impl_version (a0 : (List EventT)) : Option Int :=
  (guardO (0 ≤ (wI (((a0.length : Nat) : Int) - 1)) ∧ (wI (((a0.length : Nat) : Int) - 1)) < (a0.length : Int)) <|
  some ((nth a0 ((wI (((a0.length : Nat) : Int) - 1)).toNat)).Version))
noncomputable def impl_current_c1 (a0 : BranchT) (a1 : BranchT) : Option Int :=
  ((impl_version a0.Events).bind fun c275 =>
  ((impl_version a1.Events).bind fun c276 =>
  ((cmp_Compare_int c275 c276).bind fun c277 =>
  ((cmp_Compare_int ((a0.Events.length : Nat) : Int) ((a1.Events.length : Nat) : Int)).bind fun c278 =>
  ((impl_branchOrder a0.Events a1.Events).bind fun c279 =>
  ((cmp_Or_int ([c277, c278, c279])).bind fun c280 =>
  some c280))))))
structure slices_MaxFunc_impl_Branch_impl_current_c1_G1 where
  t6 : Int
  b1_0 : (List EventT)
structure slices_MaxFunc_impl_Branch_impl_current_c1_P1_0 where
  b1_0 : (List EventT)
noncomputable def slices_MaxFunc_impl_Branch_impl_current_c1_L1 (a0 : (List BranchT)) (g274 : slices_MaxFunc_impl_Branch_impl_current_c1_G1) : Option (slices_MaxFunc_impl_Branch_impl_current_c1_G1 ⊕ slices_MaxFunc_impl_Branch_impl_current_c1_P1_0) :=
  (if (decide (g274.t6 < ((a0.length : Nat) : Int))) = true then
    (guardO (0 ≤ g274.t6 ∧ g274.t6 < (a0.length : Int)) <|
    ((impl_current_c1 (nth a0 g274.t6.toNat) (⟨g274.b1_0⟩ : BranchT)).bind fun c282 =>
    (if (decide (c282 > 0)) = true then
      (guardO (0 ≤ g274.t6 ∧ g274.t6 < (a0.length : Int)) <|
      some (.inl ⟨(wI (g274.t6 + 1)), (nth a0 g274.t6.toNat).Events⟩))
    else
      some (.inl ⟨(wI (g274.t6 + 1)), g274.b1_0⟩))))
  else
    some (.inr (⟨g274.b1_0⟩)))
noncomputable def slices_MaxFunc_impl_Branch_impl_current_c1 (a0 : (List BranchT)) : Option BranchT :=
  (((if (decide (((a0.length : Nat) : Int) < 1)) = true then
      none
    else
      some (() : Unit)) : Option Unit).bind fun p273 =>
  (guardO (0 < (a0.length : Int)) <|
  ((loopF (slices_MaxFunc_impl_Branch_impl_current_c1_L1 a0) ⟨1, (nth a0 0).Events⟩).bind fun y283 =>
  some (⟨y283.b1_0⟩ : BranchT))))
noncomputable def impl_current (a0 : TellingsT) : Option (List EventT) :=
  (if (((a0.Branches.length : Nat) : Int) == 0) = true then
    some ([])
  else
    ((slices_MaxFunc_impl_Branch_impl_current_c1 a0.Branches).bind fun c284 =>
    some c284.Events))
noncomputable def slices_Clone_impl_Event (a0 : (List EventT)) : Option (List EventT) :=
  guardO (a0.length * 40 ≤ 140737488355328) (some a0)
structure impl_CurrentOf_J4001 where
  t12 : Bool
noncomputable def impl_CurrentOf (a0 : TellingsT) : Option ((List EventT) × Bool) :=
  ((((impl_GoodTellings a0).bind fun c271 =>
    (if (!c271) = true then
      some (⟨true⟩ : impl_CurrentOf_J4001)
    else
      some (⟨(((a0.Branches.length : Nat) : Int) == 0)⟩ : impl_CurrentOf_J4001))) : Option impl_CurrentOf_J4001).bind fun p272 =>
  (if p272.t12 = true then
    some ([], false)
  else
    ((impl_current a0).bind fun c285 =>
    ((slices_Clone_impl_Event c285).bind fun c286 =>
    some (c286, true)))))
structure laws_markBranchS_wd_G1 where
  t1 : Int
  t5 : Int
  c0 : (List BranchT)
structure laws_markBranchS_wd_P1_0 where
  t1 : Int
  c0 : (List BranchT)
noncomputable def laws_markBranchS_wd_L1 (g309 : laws_markBranchS_wd_G1) : Option (laws_markBranchS_wd_G1 ⊕ laws_markBranchS_wd_P1_0) :=
  (if (decide (g309.t5 < ((g309.c0.length : Nat) : Int))) = true then
    (guardO (g309.t5.toNat < g309.c0.length) <|
    (guardO (0 ≤ g309.t5 ∧ g309.t5 < ((g309.c0.length : Nat) : Int)) <|
    ((laws_markEventS_w ((nth g309.c0 g309.t5.toNat).Events) g309.t1).bind fun c317 =>
    (guardO (c317.2.length = ((nth g309.c0 g309.t5.toNat).Events).length) <|
    some (.inl ⟨c317.1, (wI (g309.t5 + 1)), (g309.c0.set g309.t5.toNat (⟨c317.2⟩ : BranchT))⟩)))))
  else
    some (.inr (⟨g309.t1, g309.c0⟩)))
noncomputable def laws_markBranchS_wd (a0 : (List BranchT)) (a1 : Int) : Option (Int × (List BranchT)) :=
  ((loopF (laws_markBranchS_wd_L1) ⟨a1, 0, a0⟩).bind fun y318 =>
  some (y318.t1, y318.c0))
noncomputable def laws_markTellings_wd (a0 : TellingsT) (a1 : Int) : Option (Int × (List BranchT)) :=
  ((laws_markBranchS_wd a0.Branches a1).bind fun c319 =>
  (guardO (c319.2.length = a0.Branches.length) <|
  some (c319.1, c319.2)))
structure laws_heldEventS_G1 where
  t1 : Int
  t5 : Int
structure laws_heldEventS_P1_1 where
  t1 : Int
noncomputable def laws_heldEventS_L1 (a0 : (List EventT)) (g324 : laws_heldEventS_G1) : Option (laws_heldEventS_G1 ⊕ (Unit ⊕ laws_heldEventS_P1_1)) :=
  (if (decide (g324.t5 < ((a0.length : Nat) : Int))) = true then
    (guardO (0 ≤ g324.t5 ∧ g324.t5 < (a0.length : Int)) <|
    (if (((nth a0 g324.t5.toNat).Id) != g324.t1) = true then
      some (.inr (.inl ()))
    else
      (guardO (0 ≤ g324.t5 ∧ g324.t5 < (a0.length : Int)) <|
      (if (((nth a0 g324.t5.toNat).Version) != (wI (g324.t1 + 1))) = true then
        some (.inr (.inl ()))
      else
        (guardO (0 ≤ g324.t5 ∧ g324.t5 < (a0.length : Int)) <|
        (if (((nth a0 g324.t5.toNat).Kind) != (wI ((wI (g324.t1 + 1)) + 1))) = true then
          some (.inr (.inl ()))
        else
          (guardO (0 ≤ g324.t5 ∧ g324.t5 < (a0.length : Int)) <|
          ((laws_markText (wI ((wI ((wI (g324.t1 + 1)) + 1)) + 1))).bind fun c326 =>
          (if (!(((nth a0 g324.t5.toNat).Name).toList == c326.toList)) = true then
            some (.inr (.inl ()))
          else
            some (.inl ⟨(wI ((wI ((wI ((wI (g324.t1 + 1)) + 1)) + 1)) + 1)), (wI (g324.t5 + 1))⟩))))))))))
  else
    some (.inr (.inr (⟨g324.t1⟩))))
noncomputable def laws_heldEventS (a0 : (List EventT)) (a1 : Int) : Option Int :=
  ((loopF (laws_heldEventS_L1 a0) ⟨a1, 0⟩).bind fun y327 =>
  match y327 with
  | .inl p328 =>
    some (-1)
  | .inr p329 =>
    some p329.t1)
structure laws_FnExactCurrentOf_J4008 where
  t40 : Bool
structure laws_FnExactCurrentOf_J4014 where
  t61 : Bool
structure laws_FnExactCurrentOf_J4025 where
  t87 : Bool
noncomputable def laws_FnExactCurrentOf (a0 : TellingsT) : Option Bool :=
  ((laws_szTellings a0 1048576).bind fun c15 =>
  (if (decide (c15 < 0)) = true then
    some true
  else
    ((laws_toTellings a0).bind fun c26 =>
    ((spec_CurrentOf c26).bind fun c134 =>
    ((laws_toTellings a0).bind fun c135 =>
    ((impl_CurrentOf c135).bind fun c287 =>
    ((((laws_eqEventS c287.1 c134.1).bind fun c294 =>
      (if (!c294) = true then
        some (⟨true⟩ : laws_FnExactCurrentOf_J4008)
      else
        some (⟨(!(c287.2 == c134.2))⟩ : laws_FnExactCurrentOf_J4008))) : Option laws_FnExactCurrentOf_J4008).bind fun p295 =>
    (if p295.t40 = true then
      some false
    else
      ((laws_toTellings a0).bind fun c296 =>
      ((laws_eqTellings c135 c296).bind fun c305 =>
      (if (!c305) = true then
        some false
      else
        ((laws_markTellings_wd c135 1).bind fun c320 =>
        (guardO (c320.2.length = c135.Branches.length) <|
        (((if (decide (c320.1 < 0)) = true then
            some (⟨true⟩ : laws_FnExactCurrentOf_J4014)
          else
            ((laws_eqEventS c287.1 c134.1).bind fun c321 =>
            (if (!c321) = true then
              some (⟨true⟩ : laws_FnExactCurrentOf_J4014)
            else
              some (⟨(!(c287.2 == c134.2))⟩ : laws_FnExactCurrentOf_J4014)))) : Option laws_FnExactCurrentOf_J4014).bind fun p322 =>
        (if p322.t61 = true then
          some false
        else
          ((laws_markEventS_w c287.1 1).bind fun c323 =>
          (guardO (c323.2.length = c287.1.length) <|
          ((laws_heldEventS c323.2 1).bind fun c330 =>
          (if (decide (c330 < 0)) = true then
            some false
          else
            (if (c330 != c323.1) = true then
              some false
            else
              ((laws_toTellings a0).bind fun c331 =>
              ((impl_CurrentOf c331).bind fun c332 =>
              ((((laws_eqEventS c332.1 c134.1).bind fun c333 =>
                (if (!c333) = true then
                  some (⟨true⟩ : laws_FnExactCurrentOf_J4025)
                else
                  some (⟨(!(c332.2 == c134.2))⟩ : laws_FnExactCurrentOf_J4025))) : Option laws_FnExactCurrentOf_J4025).bind fun p334 =>
              (if p334.t87 = true then
                some false
              else
                ((laws_heldEventS c323.2 1).bind fun c335 =>
                (if (decide (c335 < 0)) = true then
                  some false
                else
                  (if (c335 != c323.1) = true then
                    some false
                  else
                    some true)))))))))))))))))))))))))))
end Go.TL

import Derived.Test.YtjkeoippmlmfbaaGreatDoorG20PlR1
import Derived.Test.YtjkeoippmlmfbaaGreatDoorPlSort
import Derived.Test.YtjkeoippmlmfbaaGreatDoorPlStrs
set_option linter.unusedSimpArgs false
set_option linter.unusedVariables false
namespace Go.TL
end Go.TL
namespace Go.TL
structure RegionT where
  Id : Int
  Version : Int
  Tellings : TellingsT
  deriving DecidableEq, Inhabited
structure WordT where
  Version : Int
  Tellings : TellingsT
  deriving DecidableEq, Inhabited
structure SaidT where
  To : Int
  Word : WordT
  deriving DecidableEq, Inhabited
end Go.TL
namespace Go.TL
end Go.TL
namespace Go.TL
end Go.TL
namespace Go.TL
end Go.TL
namespace Go.TL
structure MoveT where
  From : Int
  To : Int
  Many : Int
  deriving DecidableEq, Inhabited
end Go.TL
namespace Go.TL
structure spec_l15Current_G1 where
  t3 : Int
  t11 : Int
structure spec_l15Current_P1_0 where
  t3 : Int
structure spec_l15Current_J4010 where
  t55 : Bool
noncomputable def spec_l15Current_L1 (a0 : (List BranchT)) (g128 : spec_l15Current_G1) : Option (spec_l15Current_G1 ⊕ spec_l15Current_P1_0) :=
  (if (decide (g128.t11 < ((a0.length : Nat) : Int))) = true then
    (guardO (0 ≤ g128.t11 ∧ g128.t11 < (a0.length : Int)) <|
    (if (decide (g128.t3 < 0)) = true then
      some (.inl ⟨g128.t11, (wI (g128.t11 + 1))⟩)
    else
      (guardO (0 ≤ g128.t3 ∧ g128.t3 < (a0.length : Int)) <|
      (guardO (0 ≤ (wI (((((nth a0 g128.t11.toNat).Events).length : Nat) : Int) - 1)) ∧ (wI (((((nth a0 g128.t11.toNat).Events).length : Nat) : Int) - 1)) < (((nth a0 g128.t11.toNat).Events).length : Int)) <|
      (guardO (0 ≤ (wI (((((nth a0 g128.t3.toNat).Events).length : Nat) : Int) - 1)) ∧ (wI (((((nth a0 g128.t3.toNat).Events).length : Nat) : Int) - 1)) < (((nth a0 g128.t3.toNat).Events).length : Int)) <|
      (((if (decide (((nth ((nth a0 g128.t11.toNat).Events) ((wI (((((nth a0 g128.t11.toNat).Events).length : Nat) : Int) - 1)).toNat)).Version) > ((nth ((nth a0 g128.t3.toNat).Events) ((wI (((((nth a0 g128.t3.toNat).Events).length : Nat) : Int) - 1)).toNat)).Version))) = true then
          some (⟨true⟩ : spec_l15Current_J4010)
        else
          (if (((nth ((nth a0 g128.t11.toNat).Events) ((wI (((((nth a0 g128.t11.toNat).Events).length : Nat) : Int) - 1)).toNat)).Version) == ((nth ((nth a0 g128.t3.toNat).Events) ((wI (((((nth a0 g128.t3.toNat).Events).length : Nat) : Int) - 1)).toNat)).Version)) = true then
            some (⟨(decide (((((nth a0 g128.t11.toNat).Events).length : Nat) : Int) ≥ ((((nth a0 g128.t3.toNat).Events).length : Nat) : Int)))⟩ : spec_l15Current_J4010)
          else
            some (⟨false⟩ : spec_l15Current_J4010))) : Option spec_l15Current_J4010).bind fun p129 =>
      (if p129.t55 = true then
        some (.inl ⟨g128.t11, (wI (g128.t11 + 1))⟩)
      else
        some (.inl ⟨g128.t3, (wI (g128.t11 + 1))⟩))))))))
  else
    some (.inr (⟨g128.t3⟩)))
noncomputable def spec_l15Current (a0 : (List BranchT)) : Option Int :=
  ((loopF (spec_l15Current_L1 a0) ⟨(-1), 0⟩).bind fun y130 =>
  some y130.t3)
noncomputable def impl_version (a0 : (List EventT)) : Option Int :=
  (guardO (0 ≤ (wI (((a0.length : Nat) : Int) - 1)) ∧ (wI (((a0.length : Nat) : Int) - 1)) < (a0.length : Int)) <|
  some ((nth a0 ((wI (((a0.length : Nat) : Int) - 1)).toNat)).Version))
noncomputable def impl_current_c1 (a0 : BranchT) (a1 : BranchT) : Option Int :=
  ((impl_version a0.Events).bind fun c275 =>
  ((impl_version a1.Events).bind fun c276 =>
  ((cmp_Compare_int c275 c276).bind fun c277 =>
  ((cmp_Compare_int ((a0.Events.length : Nat) : Int) ((a1.Events.length : Nat) : Int)).bind fun c278 =>
  ((impl_branchOrder a0.Events a1.Events).bind fun c279 =>
  ((cmp_Or_int ([c277, c278, c279])).bind fun c280 =>
  some c280))))))
structure slices_MaxFunc_impl_Branch_impl_current_c1_G1 where
  t6 : Int
  b1_0 : (List EventT)
structure slices_MaxFunc_impl_Branch_impl_current_c1_P1_0 where
  b1_0 : (List EventT)
noncomputable def slices_MaxFunc_impl_Branch_impl_current_c1_L1 (a0 : (List BranchT)) (g274 : slices_MaxFunc_impl_Branch_impl_current_c1_G1) : Option (slices_MaxFunc_impl_Branch_impl_current_c1_G1 ⊕ slices_MaxFunc_impl_Branch_impl_current_c1_P1_0) :=
  (if (decide (g274.t6 < ((a0.length : Nat) : Int))) = true then
    (guardO (0 ≤ g274.t6 ∧ g274.t6 < (a0.length : Int)) <|
    ((impl_current_c1 (nth a0 g274.t6.toNat) (⟨g274.b1_0⟩ : BranchT)).bind fun c282 =>
    (if (decide (c282 > 0)) = true then
      (guardO (0 ≤ g274.t6 ∧ g274.t6 < (a0.length : Int)) <|
      some (.inl ⟨(wI (g274.t6 + 1)), (nth a0 g274.t6.toNat).Events⟩))
    else
      some (.inl ⟨(wI (g274.t6 + 1)), g274.b1_0⟩))))
  else
    some (.inr (⟨g274.b1_0⟩)))
noncomputable def slices_MaxFunc_impl_Branch_impl_current_c1 (a0 : (List BranchT)) : Option BranchT :=
  (((if (decide (((a0.length : Nat) : Int) < 1)) = true then
      none
    else
      some (() : Unit)) : Option Unit).bind fun p273 =>
  (guardO (0 < (a0.length : Int)) <|
  ((loopF (slices_MaxFunc_impl_Branch_impl_current_c1_L1 a0) ⟨1, (nth a0 0).Events⟩).bind fun y283 =>
  some (⟨y283.b1_0⟩ : BranchT))))
noncomputable def impl_current (a0 : TellingsT) : Option (List EventT) :=
  (if (((a0.Branches.length : Nat) : Int) == 0) = true then
    some ([])
  else
    ((slices_MaxFunc_impl_Branch_impl_current_c1 a0.Branches).bind fun c284 =>
    some c284.Events))
structure laws_markBranchS_wd_G1 where
  t1 : Int
  t5 : Int
  c0 : (List BranchT)
structure laws_markBranchS_wd_P1_0 where
  t1 : Int
  c0 : (List BranchT)
noncomputable def laws_markBranchS_wd_L1 (g309 : laws_markBranchS_wd_G1) : Option (laws_markBranchS_wd_G1 ⊕ laws_markBranchS_wd_P1_0) :=
  (if (decide (g309.t5 < ((g309.c0.length : Nat) : Int))) = true then
    (guardO (g309.t5.toNat < g309.c0.length) <|
    (guardO (0 ≤ g309.t5 ∧ g309.t5 < ((g309.c0.length : Nat) : Int)) <|
    ((laws_markEventS_w ((nth g309.c0 g309.t5.toNat).Events) g309.t1).bind fun c317 =>
    (guardO (c317.2.length = ((nth g309.c0 g309.t5.toNat).Events).length) <|
    some (.inl ⟨c317.1, (wI (g309.t5 + 1)), (g309.c0.set g309.t5.toNat (⟨c317.2⟩ : BranchT))⟩)))))
  else
    some (.inr (⟨g309.t1, g309.c0⟩)))
noncomputable def laws_markBranchS_wd (a0 : (List BranchT)) (a1 : Int) : Option (Int × (List BranchT)) :=
  ((loopF (laws_markBranchS_wd_L1) ⟨a1, 0, a0⟩).bind fun y318 =>
  some (y318.t1, y318.c0))
noncomputable def laws_markTellings_wd (a0 : TellingsT) (a1 : Int) : Option (Int × (List BranchT)) :=
  ((laws_markBranchS_wd a0.Branches a1).bind fun c319 =>
  (guardO (c319.2.length = a0.Branches.length) <|
  some (c319.1, c319.2)))
end Go.TL
namespace Go.TL
structure spec_l15Lost_G1 where
  t28 : Int
  c1 : (List ByteArray)
structure spec_l15Lost_P1_0 where
  c0 : (List ByteArray)
structure spec_l15Lost_G2 where
  t41 : Int
  c1 : (List ByteArray)
structure spec_l15Lost_P2_0 where
  c1 : (List ByteArray)
structure spec_l15Lost_J34013 where
  t55 : Bool
noncomputable def spec_l15Lost_L2 (c145 : (StateT × Int)) (c132 : (StateT × Int)) (g146 : spec_l15Lost_G2) : Option (spec_l15Lost_G2 ⊕ spec_l15Lost_P2_0) :=
  (if (decide (g146.t41 < ((c145.1.Signals.length : Nat) : Int))) = true then
    (guardO (0 ≤ g146.t41 ∧ g146.t41 < (c145.1.Signals.length : Int)) <|
    ((((spec_l12At c132.1.Signals (nth c145.1.Signals g146.t41.toNat)).bind fun c151 =>
      (if (decide (c151 < 0)) = true then
        ((spec_l12At g146.c1 (nth c145.1.Signals g146.t41.toNat)).bind fun c152 =>
        some (⟨(decide (c152 < 0))⟩ : spec_l15Lost_J34013))
      else
        some (⟨false⟩ : spec_l15Lost_J34013))) : Option spec_l15Lost_J34013).bind fun p153 =>
    (if p153.t55 = true then
      ((spec_l12Timer g146.c1 (nth c145.1.Signals g146.t41.toNat)).bind fun c154 =>
      some (.inl ⟨(wI (g146.t41 + 1)), c154⟩))
    else
      some (.inl ⟨(wI (g146.t41 + 1)), g146.c1⟩))))
  else
    some (.inr (⟨g146.c1⟩)))
noncomputable def spec_l15Lost_L1 (a0 : (List BranchT)) (c132 : (StateT × Int)) (g133 : spec_l15Lost_G1) : Option (spec_l15Lost_G1 ⊕ spec_l15Lost_P1_0) :=
  (if (decide (g133.t28 < ((a0.length : Nat) : Int))) = true then
    (guardO (0 ≤ g133.t28 ∧ g133.t28 < (a0.length : Int)) <|
    ((spec_l12Fold ((nth a0 g133.t28.toNat).Events)).bind fun c145 =>
    ((loopF (spec_l15Lost_L2 c145 c132) ⟨0, g133.c1⟩).bind fun y155 =>
    some (.inl ⟨(wI (g133.t28 + 1)), y155.c1⟩))))
  else
    some (.inr (⟨g133.c1⟩)))
noncomputable def spec_l15Lost (a0 : (List BranchT)) : Option (List ByteArray) :=
  ((spec_l15Current a0).bind fun c131 =>
  (if (decide (c131 < 0)) = true then
    some ([])
  else
    (guardO (0 ≤ c131 ∧ c131 < (a0.length : Int)) <|
    ((spec_l12Fold ((nth a0 c131.toNat).Events)).bind fun c132 =>
    ((loopF (spec_l15Lost_L1 a0 c132) ⟨0, []⟩).bind fun y156 =>
    some y156.c0)))))
noncomputable def spec_LostSignals (a0 : TellingsT) : Option ((List ByteArray) × Bool) :=
  ((spec_GoodTellings a0).bind fun c127 =>
  (if (!c127) = true then
    some ([], false)
  else
    ((spec_l15Lost a0.Branches).bind fun c157 =>
    some (c157, true))))
structure impl_signals_G1 where
  t9 : Int
  c0 : (List ByteArray)
structure impl_signals_P1_0 where
  c0 : (List ByteArray)
noncomputable def impl_signals_L1 (a0 : (List EventT)) (g309 : impl_signals_G1) : Option (impl_signals_G1 ⊕ impl_signals_P1_0) :=
  (if (decide (g309.t9 < ((a0.length : Nat) : Int))) = true then
    (guardO (0 ≤ g309.t9 ∧ g309.t9 < (a0.length : Int)) <|
    (if (((nth a0 g309.t9.toNat).Kind) == 2) = true then
      (guardO ((g309.c0.length + 1) * 16 ≤ 140737488355328) <|
      some (.inl ⟨(wI (g309.t9 + 1)), (g309.c0 ++ ([(nth a0 g309.t9.toNat).Name]))⟩))
    else
      some (.inl ⟨(wI (g309.t9 + 1)), g309.c0⟩)))
  else
    some (.inr (⟨g309.c0⟩)))
noncomputable def impl_signals (a0 : (List EventT)) : Option (List ByteArray) :=
  ((loopF (impl_signals_L1 a0) ⟨0, []⟩).bind fun y310 =>
  some y310.c0)
noncomputable def slices_Sort_string_w (a0 : (List ByteArray)) : Option (List ByteArray) :=
  guardO (a0.length < 4611686018427387904) (some (sortS a0))
noncomputable def slices_Compact_string_w (a0 : (List ByteArray)) : Option (List ByteArray) :=
  guardO (a0.length ≤ 9223372036854775807) (some (compS a0))
structure impl_lostSignals_G1 where
  t16 : Int
  c1 : (List ByteArray)
structure impl_lostSignals_P1_0 where
  c0 : (List ByteArray)
structure impl_lostSignals_G2 where
  t24 : Int
  c1 : (List ByteArray)
structure impl_lostSignals_P2_0 where
  c1 : (List ByteArray)
noncomputable def impl_lostSignals_L2 (c318 : (List ByteArray)) (c311 : (List ByteArray)) (g319 : impl_lostSignals_G2) : Option (impl_lostSignals_G2 ⊕ impl_lostSignals_P2_0) :=
  (if (decide (g319.t24 < ((c318.length : Nat) : Int))) = true then
    (guardO (0 ≤ g319.t24 ∧ g319.t24 < ((c318.length : Nat) : Int)) <|
    ((slices_Contains_string c311 (nth c318 g319.t24.toNat)).bind fun c321 =>
    (if (!c321) = true then
      (guardO ((g319.c1.length + 1) * 16 ≤ 140737488355328) <|
      some (.inl ⟨(wI (g319.t24 + 1)), (g319.c1 ++ ([(nth c318 g319.t24.toNat)]))⟩))
    else
      some (.inl ⟨(wI (g319.t24 + 1)), g319.c1⟩))))
  else
    some (.inr (⟨g319.c1⟩)))
noncomputable def impl_lostSignals_L1 (a0 : TellingsT) (c311 : (List ByteArray)) (g312 : impl_lostSignals_G1) : Option (impl_lostSignals_G1 ⊕ impl_lostSignals_P1_0) :=
  (if (decide (g312.t16 < ((a0.Branches.length : Nat) : Int))) = true then
    (guardO (0 ≤ g312.t16 ∧ g312.t16 < (a0.Branches.length : Int)) <|
    ((impl_signals ((nth a0.Branches g312.t16.toNat).Events)).bind fun c318 =>
    ((loopF (impl_lostSignals_L2 c318 c311) ⟨0, g312.c1⟩).bind fun y322 =>
    some (.inl ⟨(wI (g312.t16 + 1)), y322.c1⟩))))
  else
    some (.inr (⟨g312.c1⟩)))
noncomputable def impl_lostSignals (a0 : TellingsT) : Option (List ByteArray) :=
  ((impl_current a0).bind fun c308 =>
  ((impl_signals c308).bind fun c311 =>
  ((loopF (impl_lostSignals_L1 a0 c311) ⟨0, []⟩).bind fun y323 =>
  ((slices_Sort_string_w y323.c0).bind fun c324 =>
  (guardO (c324.length = y323.c0.length) <|
  ((slices_Compact_string_w c324).bind fun c325 =>
  some c325))))))
noncomputable def impl_LostSignals (a0 : TellingsT) : Option ((List ByteArray) × Bool) :=
  ((impl_GoodTellings a0).bind fun c295 =>
  (if (!c295) = true then
    some ([], false)
  else
    ((impl_lostSignals a0).bind fun c328 =>
    some (c328, true))))
structure laws_FnExactLostSignals_J4008 where
  t40 : Bool
structure laws_FnExactLostSignals_J4014 where
  t61 : Bool
structure laws_FnExactLostSignals_J4025 where
  t87 : Bool
noncomputable def laws_FnExactLostSignals (a0 : TellingsT) : Option Bool :=
  ((laws_szTellings a0 1048576).bind fun c15 =>
  (if (decide (c15 < 0)) = true then
    some true
  else
    ((laws_toTellings a0).bind fun c26 =>
    ((spec_LostSignals c26).bind fun c158 =>
    ((laws_toTellings a0).bind fun c159 =>
    ((impl_LostSignals c159).bind fun c329 =>
    ((((laws_eqStringS c329.1 c158.1).bind fun c334 =>
      (if (!c334) = true then
        some (⟨true⟩ : laws_FnExactLostSignals_J4008)
      else
        some (⟨(!(c329.2 == c158.2))⟩ : laws_FnExactLostSignals_J4008))) : Option laws_FnExactLostSignals_J4008).bind fun p335 =>
    (if p335.t40 = true then
      some false
    else
      ((laws_toTellings a0).bind fun c336 =>
      ((laws_eqTellings c159 c336).bind fun c351 =>
      (if (!c351) = true then
        some false
      else
        ((laws_markTellings_wd c159 1).bind fun c366 =>
        (guardO (c366.2.length = c159.Branches.length) <|
        (((if (decide (c366.1 < 0)) = true then
            some (⟨true⟩ : laws_FnExactLostSignals_J4014)
          else
            ((laws_eqStringS c329.1 c158.1).bind fun c367 =>
            (if (!c367) = true then
              some (⟨true⟩ : laws_FnExactLostSignals_J4014)
            else
              some (⟨(!(c329.2 == c158.2))⟩ : laws_FnExactLostSignals_J4014)))) : Option laws_FnExactLostSignals_J4014).bind fun p368 =>
        (if p368.t61 = true then
          some false
        else
          ((laws_markStringS_w c329.1 1).bind fun c375 =>
          (guardO (c375.2.length = c329.1.length) <|
          ((laws_heldStringS c375.2 1).bind fun c382 =>
          (if (decide (c382 < 0)) = true then
            some false
          else
            (if (c382 != c375.1) = true then
              some false
            else
              ((laws_toTellings a0).bind fun c383 =>
              ((impl_LostSignals c383).bind fun c384 =>
              ((((laws_eqStringS c384.1 c158.1).bind fun c385 =>
                (if (!c385) = true then
                  some (⟨true⟩ : laws_FnExactLostSignals_J4025)
                else
                  some (⟨(!(c384.2 == c158.2))⟩ : laws_FnExactLostSignals_J4025))) : Option laws_FnExactLostSignals_J4025).bind fun p386 =>
              (if p386.t87 = true then
                some false
              else
                ((laws_heldStringS c375.2 1).bind fun c387 =>
                (if (decide (c387 < 0)) = true then
                  some false
                else
                  (if (c387 != c375.1) = true then
                    some false
                  else
                    some true)))))))))))))))))))))))))))
end Go.TL

import Derived.Test.YtjkeoippmlmfbaaGreatDoorG20PlR1
import Derived.Test.YtjkeoippmlmfbaaGreatDoorG19PlTrim
set_option linter.unusedSimpArgs false
set_option linter.unusedVariables false
namespace Go.TL
end Go.TL
namespace Go.TL
structure RegionT where
  Id : Int
  Version : Int
  Tellings : TellingsT
  deriving DecidableEq,Inhabited
structure WordT where
  Version : Int
  Tellings : TellingsT
  deriving DecidableEq,Inhabited
structure SaidT where
  To : Int
  Word : WordT
  deriving DecidableEq,Inhabited
end Go.TL
namespace Go.TL
end Go.TL
namespace Go.TL
end Go.TL
namespace Go.TL
end Go.TL
namespace Go.TL
structure MoveT where
  From : Int
  To : Int
  Many : Int
  deriving DecidableEq,Inhabited
end Go.TL
namespace Go.TL
noncomputable def spec_l15OwnEvents (a0 : (List EventT)) : Option (List EventT) :=
  (guardO (a0.length * 40 ≤ 140737488355328) <|
  some (([]) ++ a0))
noncomputable def slices_Clone_impl_Event (a0 : (List EventT)) : Option (List EventT) :=
  guardO (a0.length * 40 ≤ 140737488355328) (some a0)
structure laws_markBranchS_wd_G1 where
  t1 : Int
  t5 : Int
  c0 : (List BranchT)
structure laws_markBranchS_wd_P1_0 where
  t1 : Int
  c0 : (List BranchT)
noncomputable def laws_markBranchS_wd_L1 (g309 : laws_markBranchS_wd_G1) : Option (laws_markBranchS_wd_G1 ⊕ laws_markBranchS_wd_P1_0) :=
  (if (decide (g309.t5 < ((g309.c0.length : Nat) : Int))) = true then
    (guardO (g309.t5.toNat < g309.c0.length) <|
    (guardO (0 ≤ g309.t5 ∧ g309.t5 < ((g309.c0.length : Nat) : Int)) <|
    ((laws_markEventS_w ((nth g309.c0 g309.t5.toNat).Events) g309.t1).bind fun c317 =>
    (guardO (c317.2.length = ((nth g309.c0 g309.t5.toNat).Events).length) <|
    some (.inl ⟨c317.1,(wI (g309.t5 + 1)),(g309.c0.set g309.t5.toNat (⟨c317.2⟩ : BranchT))⟩)))))
  else
    some (.inr (⟨g309.t1,g309.c0⟩)))
noncomputable def laws_markBranchS_wd (a0 : (List BranchT)) (a1 : Int) : Option (Int × (List BranchT)) :=
  ((loopF (laws_markBranchS_wd_L1) ⟨a1,0,a0⟩).bind fun y318 =>
  some (y318.t1,y318.c0))
noncomputable def laws_markTellings_wd (a0 : TellingsT) (a1 : Int) : Option (Int × (List BranchT)) :=
  ((laws_markBranchS_wd a0.Branches a1).bind fun c319 =>
  (guardO (c319.2.length = a0.Branches.length) <|
  some (c319.1,c319.2)))
structure laws_heldEventS_G1 where
  t1 : Int
  t5 : Int
structure laws_heldEventS_P1_1 where
  t1 : Int
noncomputable def laws_heldEventS_L1 (a0 : (List EventT)) (g324 : laws_heldEventS_G1) : Option (laws_heldEventS_G1 ⊕ (Unit ⊕ laws_heldEventS_P1_1)) :=
  (if (decide (g324.t5 < ((a0.length : Nat) : Int))) = true then
    (guardO (0 ≤ g324.t5 ∧ g324.t5 < (a0.length : Int)) <|
    (if (((nth a0 g324.t5.toNat).Id) != g324.t1) = true then
      some (.inr (.inl ()))
    else
      (guardO (0 ≤ g324.t5 ∧ g324.t5 < (a0.length : Int)) <|
      (if (((nth a0 g324.t5.toNat).Version) != (wI (g324.t1 + 1))) = true then
        some (.inr (.inl ()))
      else
        (guardO (0 ≤ g324.t5 ∧ g324.t5 < (a0.length : Int)) <|
        (if (((nth a0 g324.t5.toNat).Kind) != (wI ((wI (g324.t1 + 1)) + 1))) = true then
          some (.inr (.inl ()))
        else
          (guardO (0 ≤ g324.t5 ∧ g324.t5 < (a0.length : Int)) <|
          ((laws_markText (wI ((wI ((wI (g324.t1 + 1)) + 1)) + 1))).bind fun c326 =>
          (if (!(((nth a0 g324.t5.toNat).Name).toList == c326.toList)) = true then
            some (.inr (.inl ()))
          else
            some (.inl ⟨(wI ((wI ((wI ((wI (g324.t1 + 1)) + 1)) + 1)) + 1)),(wI (g324.t5 + 1))⟩))))))))))
  else
    some (.inr (.inr (⟨g324.t1⟩))))
noncomputable def laws_heldEventS (a0 : (List EventT)) (a1 : Int) : Option Int :=
  ((loopF (laws_heldEventS_L1 a0) ⟨a1,0⟩).bind fun y327 =>
  match y327 with
  | .inl p328 =>
    some (-1)
  | .inr p329 =>
    some p329.t1)
structure impl_cloneTellings_G1 where
  t10 : Int
  c2 : (List BranchT)
structure impl_cloneTellings_P1_0 where
  c2 : (List BranchT)
noncomputable def impl_cloneTellings_L1 (a0 : TellingsT) (g397 : impl_cloneTellings_G1) : Option (impl_cloneTellings_G1 ⊕ impl_cloneTellings_P1_0) :=
  (if (decide (g397.t10 < ((a0.Branches.length : Nat) : Int))) = true then
    (guardO (0 ≤ g397.t10 ∧ g397.t10 < (a0.Branches.length : Int)) <|
    ((slices_Clone_impl_Event ((nth a0.Branches g397.t10.toNat).Events)).bind fun c399 =>
    (guardO ((g397.c2.length + 1) * 24 ≤ 140737488355328) <|
    some (.inl ⟨(wI (g397.t10 + 1)),(g397.c2 ++ [(⟨c399⟩ : BranchT)])⟩))))
  else
    some (.inr (⟨g397.c2⟩)))
noncomputable def impl_cloneTellings (a0 : TellingsT) : Option TellingsT :=
  ((loopF (impl_cloneTellings_L1 a0) ⟨0,[]⟩).bind fun y400 =>
  some (⟨y400.c2⟩ : TellingsT))
structure laws_heldBranchS_G1 where
  t1 : Int
  t5 : Int
structure laws_heldBranchS_P1_1 where
  t1 : Int
noncomputable def laws_heldBranchS_L1 (a0 : (List BranchT)) (g416 : laws_heldBranchS_G1) : Option (laws_heldBranchS_G1 ⊕ (Unit ⊕ laws_heldBranchS_P1_1)) :=
  (if (decide (g416.t5 < ((a0.length : Nat) : Int))) = true then
    (guardO (0 ≤ g416.t5 ∧ g416.t5 < (a0.length : Int)) <|
    ((laws_heldEventS ((nth a0 g416.t5.toNat).Events) g416.t1).bind fun c418 =>
    (if (decide (c418 < 0)) = true then
      some (.inr (.inl ()))
    else
      some (.inl ⟨c418,(wI (g416.t5 + 1))⟩))))
  else
    some (.inr (.inr (⟨g416.t1⟩))))
noncomputable def laws_heldBranchS (a0 : (List BranchT)) (a1 : Int) : Option Int :=
  ((loopF (laws_heldBranchS_L1 a0) ⟨a1,0⟩).bind fun y419 =>
  match y419 with
  | .inl p420 =>
    some (-1)
  | .inr p421 =>
    some p421.t1)
noncomputable def laws_heldTellings (a0 : TellingsT) (a1 : Int) : Option Int :=
  ((laws_heldBranchS a0.Branches a1).bind fun c422 =>
  (if (decide (c422 < 0)) = true then
    some (-1)
  else
    some c422))
end Go.TL
namespace Go.TL
end Go.TL

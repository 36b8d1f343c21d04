import Derived.Test.YtjkeoippmlmfbaaGreatDoorG20PlR1
import Derived.Test.YtjkeoippmlmfbaaGreatDoorG19PlTrim
set_option linter.unusedSimpArgs false
set_option linter.unusedVariables false
namespace Go.TL
end Go.TL
namespace Go.TL
structure RegionT where
  Id : Int
  Version : Int
  Tellings : TellingsT
  deriving DecidableEq,Inhabited
noncomputable def laws_szRegion (a0 : RegionT) (a1 : Int) : Option Int :=
  ((laws_szTellings a0.Tellings a1).bind fun c15 =>
  (if (decide (c15 < 0)) = true then
    some (-1)
  else
    some c15))
noncomputable def laws_toRegion (a0 : RegionT) : Option RegionT :=
  ((laws_toTellings a0.Tellings).bind fun c30 =>
  some (⟨a0.Id,a0.Version,c30⟩ : RegionT))
structure spec_GoodRegion_J4001 where
  t22 : Bool
structure spec_GoodRegion_G1 where
  t27 : Int
structure spec_GoodRegion_G2 where
  t34 : Int
noncomputable def spec_GoodRegion_L2 (a0 : RegionT) (g137 : spec_GoodRegion_G1) (g142 : spec_GoodRegion_G2) : Option (spec_GoodRegion_G2 ⊕ (Unit ⊕ Unit)) :=
  (if (decide (g142.t34 < ((((nth a0.Tellings.Branches g137.t27.toNat).Events).length : Nat) : Int))) = true then
    (guardO (0 ≤ g142.t34 ∧ g142.t34 < (((nth a0.Tellings.Branches g137.t27.toNat).Events).length : Int)) <|
    (if (decide (((nth ((nth a0.Tellings.Branches g137.t27.toNat).Events) g142.t34.toNat).Version) > a0.Version)) = true then
      some (.inr (.inl ()))
    else
      some (.inl ⟨(wI (g142.t34 + 1))⟩)))
  else
    some (.inr (.inr ())))
noncomputable def spec_GoodRegion_L1 (a0 : RegionT) (g137 : spec_GoodRegion_G1) : Option (spec_GoodRegion_G1 ⊕ (Unit ⊕ Unit)) :=
  (if (decide (g137.t27 < ((a0.Tellings.Branches.length : Nat) : Int))) = true then
    (guardO (0 ≤ g137.t27 ∧ g137.t27 < (a0.Tellings.Branches.length : Int)) <|
    ((loopF (spec_GoodRegion_L2 a0 g137) ⟨0⟩).bind fun y143 =>
    match y143 with
    | .inl p144 =>
      some (.inr (.inl ()))
    | .inr p145 =>
      some (.inl ⟨(wI (g137.t27 + 1))⟩)))
  else
    some (.inr (.inr ())))
noncomputable def spec_GoodRegion (a0 : RegionT) : Option Bool :=
  ((((spec_l1In a0.Id 0 9).bind fun c32 =>
    (if (!c32) = true then
      some (⟨true⟩ : spec_GoodRegion_J4001)
    else
      ((spec_l13Version a0.Version).bind fun c34 =>
      (if (!c34) = true then
        some (⟨true⟩ : spec_GoodRegion_J4001)
      else
        ((spec_GoodTellings a0.Tellings).bind fun c135 =>
        some (⟨(!c135)⟩ : spec_GoodRegion_J4001)))))) : Option spec_GoodRegion_J4001).bind fun p136 =>
  (if p136.t22 = true then
    some false
  else
    ((loopF (spec_GoodRegion_L1 a0) ⟨0⟩).bind fun y146 =>
    match y146 with
    | .inl p147 =>
      some false
    | .inr p148 =>
      some true)))
noncomputable def impl_wordOk_c1_c1_r (a0 : EventT) (a1 : Int) : Option Bool :=
  some (decide (a0.Version > a1))
structure slices_IndexFunc_impl_Event_impl_wordOk_c1_c1r_G1 where
  t8 : Int
structure slices_IndexFunc_impl_Event_impl_wordOk_c1_c1r_P1_0 where
  t4 : Int
noncomputable def slices_IndexFunc_impl_Event_impl_wordOk_c1_c1r_L1 (a0 : (List EventT)) (a1 : Int) (g297 : slices_IndexFunc_impl_Event_impl_wordOk_c1_c1r_G1) : Option (slices_IndexFunc_impl_Event_impl_wordOk_c1_c1r_G1 ⊕ (slices_IndexFunc_impl_Event_impl_wordOk_c1_c1r_P1_0 ⊕ Unit)) :=
  (if (decide (g297.t8 < ((a0.length : Nat) : Int))) = true then
    (guardO (0 ≤ g297.t8 ∧ g297.t8 < (a0.length : Int)) <|
    ((impl_wordOk_c1_c1_r (nth a0 g297.t8.toNat) a1).bind fun c299 =>
    (if c299 = true then
      some (.inr (.inl (⟨g297.t8⟩)))
    else
      some (.inl ⟨(wI (g297.t8 + 1))⟩))))
  else
    some (.inr (.inr ())))
noncomputable def slices_IndexFunc_impl_Event_impl_wordOk_c1_c1r (a0 : (List EventT)) (a1 : Int) : Option Int :=
  ((loopF (slices_IndexFunc_impl_Event_impl_wordOk_c1_c1r_L1 a0 a1) ⟨0⟩).bind fun y300 =>
  match y300 with
  | .inl p301 =>
    some p301.t4
  | .inr p302 =>
    some (-1))
noncomputable def slices_ContainsFunc_impl_Event_impl_wordOk_c1_c1r (a0 : (List EventT)) (a1 : Int) : Option Bool :=
  ((slices_IndexFunc_impl_Event_impl_wordOk_c1_c1r a0 a1).bind fun c303 =>
  some (decide (c303 ≥ 0)))
noncomputable def impl_wordOk_c1_r (a0 : BranchT) (a1 : Int) : Option Bool :=
  ((slices_ContainsFunc_impl_Event_impl_wordOk_c1_c1r a0.Events a1).bind fun c304 =>
  some c304)
structure slices_IndexFunc_impl_Branch_impl_wordOk_c1r_G1 where
  t8 : Int
structure slices_IndexFunc_impl_Branch_impl_wordOk_c1r_P1_0 where
  t4 : Int
noncomputable def slices_IndexFunc_impl_Branch_impl_wordOk_c1r_L1 (a0 : (List BranchT)) (a1 : Int) (g296 : slices_IndexFunc_impl_Branch_impl_wordOk_c1r_G1) : Option (slices_IndexFunc_impl_Branch_impl_wordOk_c1r_G1 ⊕ (slices_IndexFunc_impl_Branch_impl_wordOk_c1r_P1_0 ⊕ Unit)) :=
  (if (decide (g296.t8 < ((a0.length : Nat) : Int))) = true then
    (guardO (0 ≤ g296.t8 ∧ g296.t8 < (a0.length : Int)) <|
    ((impl_wordOk_c1_r (nth a0 g296.t8.toNat) a1).bind fun c306 =>
    (if c306 = true then
      some (.inr (.inl (⟨g296.t8⟩)))
    else
      some (.inl ⟨(wI (g296.t8 + 1))⟩))))
  else
    some (.inr (.inr ())))
noncomputable def slices_IndexFunc_impl_Branch_impl_wordOk_c1r (a0 : (List BranchT)) (a1 : Int) : Option Int :=
  ((loopF (slices_IndexFunc_impl_Branch_impl_wordOk_c1r_L1 a0 a1) ⟨0⟩).bind fun y307 =>
  match y307 with
  | .inl p308 =>
    some p308.t4
  | .inr p309 =>
    some (-1))
noncomputable def slices_ContainsFunc_impl_Branch_impl_wordOk_c1r (a0 : (List BranchT)) (a1 : Int) : Option Bool :=
  ((slices_IndexFunc_impl_Branch_impl_wordOk_c1r a0 a1).bind fun c310 =>
  some (decide (c310 ≥ 0)))
structure impl_wordOk_J4001 where
  t12 : Bool
noncomputable def impl_wordOk (a0 : Int) (a1 : TellingsT) : Option Bool :=
  ((((impl_isVersion a0).bind fun c154 =>
    (if (!c154) = true then
      some (⟨true⟩ : impl_wordOk_J4001)
    else
      ((impl_GoodTellings a1).bind fun c294 =>
      some (⟨(!c294)⟩ : impl_wordOk_J4001)))) : Option impl_wordOk_J4001).bind fun p295 =>
  (if p295.t12 = true then
    some false
  else
    ((slices_ContainsFunc_impl_Branch_impl_wordOk_c1r a1.Branches a0).bind fun c311 =>
    some (!c311))))
noncomputable def impl_GoodRegion (a0 : RegionT) : Option Bool :=
  ((impl_isRegion a0.Id).bind fun c152 =>
  (if c152 = true then
    ((impl_wordOk a0.Version a0.Tellings).bind fun c312 =>
    some c312)
  else
    some false))
noncomputable def laws_eqRegion (a0 : RegionT) (a1 : RegionT) : Option Bool :=
  (if (a0.Id != a1.Id) = true then
    some false
  else
    (if (a0.Version != a1.Version) = true then
      some false
    else
      ((laws_eqTellings a0.Tellings a1.Tellings).bind fun c329 =>
      (if (!c329) = true then
        some false
      else
        some true))))
structure WordT where
  Version : Int
  Tellings : TellingsT
  deriving DecidableEq,Inhabited
structure SaidT where
  To : Int
  Word : WordT
  deriving DecidableEq,Inhabited
noncomputable def laws_szWord (a0 : WordT) (a1 : Int) : Option Int :=
  ((laws_szTellings a0.Tellings a1).bind fun c351 =>
  (if (decide (c351 < 0)) = true then
    some (-1)
  else
    some c351))
noncomputable def laws_toWord (a0 : WordT) : Option WordT :=
  ((laws_toTellings a0.Tellings).bind fun c369 =>
  some (⟨a0.Version,c369⟩ : WordT))
noncomputable def laws_eqWord (a0 : WordT) (a1 : WordT) : Option Bool :=
  (if (a0.Version != a1.Version) = true then
    some false
  else
    ((laws_eqTellings a0.Tellings a1.Tellings).bind fun c441 =>
    (if (!c441) = true then
      some false
    else
      some true)))
end Go.TL
namespace Go.TL
end Go.TL
namespace Go.TL
end Go.TL
namespace Go.TL
end Go.TL
namespace Go.TL
structure MoveT where
  From : Int
  To : Int
  Many : Int
  deriving DecidableEq,Inhabited
end Go.TL
namespace Go.TL
noncomputable def spec_l15OwnEvents (a0 : (List EventT)) : Option (List EventT) :=
  (guardO (a0.length * 40 ≤ 140737488355328) <|
  some (([]) ++ a0))
noncomputable def slices_Clone_impl_Event (a0 : (List EventT)) : Option (List EventT) :=
  guardO (a0.length * 40 ≤ 140737488355328) (some a0)
structure laws_markBranchS_wd_G1 where
  t1 : Int
  t5 : Int
  c0 : (List BranchT)
structure laws_markBranchS_wd_P1_0 where
  t1 : Int
  c0 : (List BranchT)
noncomputable def laws_markBranchS_wd_L1 (g309 : laws_markBranchS_wd_G1) : Option (laws_markBranchS_wd_G1 ⊕ laws_markBranchS_wd_P1_0) :=
  (if (decide (g309.t5 < ((g309.c0.length : Nat) : Int))) = true then
    (guardO (g309.t5.toNat < g309.c0.length) <|
    (guardO (0 ≤ g309.t5 ∧ g309.t5 < ((g309.c0.length : Nat) : Int)) <|
    ((laws_markEventS_w ((nth g309.c0 g309.t5.toNat).Events) g309.t1).bind fun c317 =>
    (guardO (c317.2.length = ((nth g309.c0 g309.t5.toNat).Events).length) <|
    some (.inl ⟨c317.1,(wI (g309.t5 + 1)),(g309.c0.set g309.t5.toNat (⟨c317.2⟩ : BranchT))⟩)))))
  else
    some (.inr (⟨g309.t1,g309.c0⟩)))
noncomputable def laws_markBranchS_wd (a0 : (List BranchT)) (a1 : Int) : Option (Int × (List BranchT)) :=
  ((loopF (laws_markBranchS_wd_L1) ⟨a1,0,a0⟩).bind fun y318 =>
  some (y318.t1,y318.c0))
noncomputable def laws_markTellings_wd (a0 : TellingsT) (a1 : Int) : Option (Int × (List BranchT)) :=
  ((laws_markBranchS_wd a0.Branches a1).bind fun c319 =>
  (guardO (c319.2.length = a0.Branches.length) <|
  some (c319.1,c319.2)))
structure laws_heldEventS_G1 where
  t1 : Int
  t5 : Int
structure laws_heldEventS_P1_1 where
  t1 : Int
noncomputable def laws_heldEventS_L1 (a0 : (List EventT)) (g324 : laws_heldEventS_G1) : Option (laws_heldEventS_G1 ⊕ (Unit ⊕ laws_heldEventS_P1_1)) :=
  (if (decide (g324.t5 < ((a0.length : Nat) : Int))) = true then
    (guardO (0 ≤ g324.t5 ∧ g324.t5 < (a0.length : Int)) <|
    (if (((nth a0 g324.t5.toNat).Id) != g324.t1) = true then
      some (.inr (.inl ()))
    else
      (guardO (0 ≤ g324.t5 ∧ g324.t5 < (a0.length : Int)) <|
      (if (((nth a0 g324.t5.toNat).Version) != (wI (g324.t1 + 1))) = true then
        some (.inr (.inl ()))
      else
        (guardO (0 ≤ g324.t5 ∧ g324.t5 < (a0.length : Int)) <|
        (if (((nth a0 g324.t5.toNat).Kind) != (wI ((wI (g324.t1 + 1)) + 1))) = true then
          some (.inr (.inl ()))
        else
          (guardO (0 ≤ g324.t5 ∧ g324.t5 < (a0.length : Int)) <|
          ((laws_markText (wI ((wI ((wI (g324.t1 + 1)) + 1)) + 1))).bind fun c326 =>
          (if (!(((nth a0 g324.t5.toNat).Name).toList == c326.toList)) = true then
            some (.inr (.inl ()))
          else
            some (.inl ⟨(wI ((wI ((wI ((wI (g324.t1 + 1)) + 1)) + 1)) + 1)),(wI (g324.t5 + 1))⟩))))))))))
  else
    some (.inr (.inr (⟨g324.t1⟩))))
noncomputable def laws_heldEventS (a0 : (List EventT)) (a1 : Int) : Option Int :=
  ((loopF (laws_heldEventS_L1 a0) ⟨a1,0⟩).bind fun y327 =>
  match y327 with
  | .inl p328 =>
    some (-1)
  | .inr p329 =>
    some p329.t1)
structure impl_cloneTellings_G1 where
  t10 : Int
  c2 : (List BranchT)
structure impl_cloneTellings_P1_0 where
  c2 : (List BranchT)
noncomputable def impl_cloneTellings_L1 (a0 : TellingsT) (g397 : impl_cloneTellings_G1) : Option (impl_cloneTellings_G1 ⊕ impl_cloneTellings_P1_0) :=
  (if (decide (g397.t10 < ((a0.Branches.length : Nat) : Int))) = true then
    (guardO (0 ≤ g397.t10 ∧ g397.t10 < (a0.Branches.length : Int)) <|
    ((slices_Clone_impl_Event ((nth a0.Branches g397.t10.toNat).Events)).bind fun c399 =>
    (guardO ((g397.c2.length + 1) * 24 ≤ 140737488355328) <|
    some (.inl ⟨(wI (g397.t10 + 1)),(g397.c2 ++ [(⟨c399⟩ : BranchT)])⟩))))
  else
    some (.inr (⟨g397.c2⟩)))
noncomputable def impl_cloneTellings (a0 : TellingsT) : Option TellingsT :=
  ((loopF (impl_cloneTellings_L1 a0) ⟨0,[]⟩).bind fun y400 =>
  some (⟨y400.c2⟩ : TellingsT))
noncomputable def laws_markRegion_wd (a0 : RegionT) (a1 : Int) : Option (Int × (List BranchT)) :=
  ((laws_markTellings_wd a0.Tellings a1).bind fun c410 =>
  (guardO (c410.2.length = a0.Tellings.Branches.length) <|
  some (c410.1,c410.2)))
noncomputable def laws_markWord_wd (a0 : WordT) (a1 : Int) : Option (Int × (List BranchT)) :=
  ((laws_markTellings_wd a0.Tellings a1).bind fun c414 =>
  (guardO (c414.2.length = a0.Tellings.Branches.length) <|
  some (c414.1,c414.2)))
structure laws_heldBranchS_G1 where
  t1 : Int
  t5 : Int
structure laws_heldBranchS_P1_1 where
  t1 : Int
noncomputable def laws_heldBranchS_L1 (a0 : (List BranchT)) (g416 : laws_heldBranchS_G1) : Option (laws_heldBranchS_G1 ⊕ (Unit ⊕ laws_heldBranchS_P1_1)) :=
  (if (decide (g416.t5 < ((a0.length : Nat) : Int))) = true then
    (guardO (0 ≤ g416.t5 ∧ g416.t5 < (a0.length : Int)) <|
    ((laws_heldEventS ((nth a0 g416.t5.toNat).Events) g416.t1).bind fun c418 =>
    (if (decide (c418 < 0)) = true then
      some (.inr (.inl ()))
    else
      some (.inl ⟨c418,(wI (g416.t5 + 1))⟩))))
  else
    some (.inr (.inr (⟨g416.t1⟩))))
noncomputable def laws_heldBranchS (a0 : (List BranchT)) (a1 : Int) : Option Int :=
  ((loopF (laws_heldBranchS_L1 a0) ⟨a1,0⟩).bind fun y419 =>
  match y419 with
  | .inl p420 =>
    some (-1)
  | .inr p421 =>
    some p421.t1)
noncomputable def laws_heldTellings (a0 : TellingsT) (a1 : Int) : Option Int :=
  ((laws_heldBranchS a0.Branches a1).bind fun c422 =>
  (if (decide (c422 < 0)) = true then
    some (-1)
  else
    some c422))
noncomputable def impl_cloneRegion (a0 : RegionT) : Option RegionT :=
  ((impl_cloneTellings a0.Tellings).bind fun c498 =>
  some (⟨a0.Id,a0.Version,c498⟩ : RegionT))
noncomputable def laws_heldRegion (a0 : RegionT) (a1 : Int) : Option Int :=
  ((laws_heldTellings a0.Tellings a1).bind fun c516 =>
  (if (decide (c516 < 0)) = true then
    some (-1)
  else
    some c516))
end Go.TL
namespace Go.TL
end Go.TL

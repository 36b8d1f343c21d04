import Derived.Test.YtjkeoippmlmfbaaGreatDoorG20PlR1
import Derived.Test.YtjkeoippmlmfbaaGreatDoorPlSort
set_option linter.unusedSimpArgs false
set_option linter.unusedVariables false
namespace Go.TL
end Go.TL
namespace Go.TL
structure RegionT where
  Id : Int
  Version : Int
  Tellings : TellingsT
  deriving DecidableEq, Inhabited
noncomputable def laws_szRegion (a0 : RegionT) (a1 : Int) : Option Int :=
  ((laws_szTellings a0.Tellings a1).bind fun c15 =>
  (if (decide (c15 < 0)) = true then
    some (-1)
  else
    some c15))
noncomputable def laws_toRegion (a0 : RegionT) : Option RegionT :=
  ((laws_toTellings a0.Tellings).bind fun c30 =>
  some (⟨a0.Id, a0.Version, c30⟩ : RegionT))
structure spec_GoodRegion_J4001 where
  t22 : Bool
structure spec_GoodRegion_G1 where
  t27 : Int
structure spec_GoodRegion_G2 where
  t34 : Int
noncomputable def spec_GoodRegion_L2 (a0 : RegionT) (g137 : spec_GoodRegion_G1) (g142 : spec_GoodRegion_G2) : Option (spec_GoodRegion_G2 ⊕ (Unit ⊕ Unit)) :=
  (if (decide (g142.t34 < ((((nth a0.Tellings.Branches g137.t27.toNat).Events).length : Nat) : Int))) = true then
    (guardO (0 ≤ g142.t34 ∧ g142.t34 < (((nth a0.Tellings.Branches g137.t27.toNat).Events).length : Int)) <|
    (if (decide (((nth ((nth a0.Tellings.Branches g137.t27.toNat).Events) g142.t34.toNat).Version) > a0.Version)) = true then
      some (.inr (.inl ()))
    else
      some (.inl ⟨(wI (g142.t34 + 1))⟩)))
  else
    some (.inr (.inr ())))
noncomputable def spec_GoodRegion_L1 (a0 : RegionT) (g137 : spec_GoodRegion_G1) : Option (spec_GoodRegion_G1 ⊕ (Unit ⊕ Unit)) :=
  (if (decide (g137.t27 < ((a0.Tellings.Branches.length : Nat) : Int))) = true then
    (guardO (0 ≤ g137.t27 ∧ g137.t27 < (a0.Tellings.Branches.length : Int)) <|
    ((loopF (spec_GoodRegion_L2 a0 g137) ⟨0⟩).bind fun y143 =>
    match y143 with
    | .inl p144 =>
      some (.inr (.inl ()))
    | .inr p145 =>
      some (.inl ⟨(wI (g137.t27 + 1))⟩)))
  else
    some (.inr (.inr ())))
noncomputable def spec_GoodRegion (a0 : RegionT) : Option Bool :=
  ((((spec_l1In a0.Id 0 9).bind fun c32 =>
    (if (!c32) = true then
      some (⟨true⟩ : spec_GoodRegion_J4001)
    else
      ((spec_l13Version a0.Version).bind fun c34 =>
      (if (!c34) = true then
        some (⟨true⟩ : spec_GoodRegion_J4001)
      else
        ((spec_GoodTellings a0.Tellings).bind fun c135 =>
        some (⟨(!c135)⟩ : spec_GoodRegion_J4001)))))) : Option spec_GoodRegion_J4001).bind fun p136 =>
  (if p136.t22 = true then
    some false
  else
    ((loopF (spec_GoodRegion_L1 a0) ⟨0⟩).bind fun y146 =>
    match y146 with
    | .inl p147 =>
      some false
    | .inr p148 =>
      some true)))
noncomputable def impl_wordOk_c1_c1_r (a0 : EventT) (a1 : Int) : Option Bool :=
  some (decide (a0.Version > a1))
structure slices_IndexFunc_impl_Event_impl_wordOk_c1_c1r_G1 where
  t8 : Int
structure slices_IndexFunc_impl_Event_impl_wordOk_c1_c1r_P1_0 where
  t4 : Int
noncomputable def slices_IndexFunc_impl_Event_impl_wordOk_c1_c1r_L1 (a0 : (List EventT)) (a1 : Int) (g297 : slices_IndexFunc_impl_Event_impl_wordOk_c1_c1r_G1) : Option (slices_IndexFunc_impl_Event_impl_wordOk_c1_c1r_G1 ⊕ (slices_IndexFunc_impl_Event_impl_wordOk_c1_c1r_P1_0 ⊕ Unit)) :=
  (if (decide (g297.t8 < ((a0.length : Nat) : Int))) = true then
    (guardO (0 ≤ g297.t8 ∧ g297.t8 < (a0.length : Int)) <|
    ((impl_wordOk_c1_c1_r (nth a0 g297.t8.toNat) a1).bind fun c299 =>
    (if c299 = true then
      some (.inr (.inl (⟨g297.t8⟩)))
    else
      some (.inl ⟨(wI (g297.t8 + 1))⟩))))
  else
    some (.inr (.inr ())))
noncomputable def slices_IndexFunc_impl_Event_impl_wordOk_c1_c1r (a0 : (List EventT)) (a1 : Int) : Option Int :=
  ((loopF (slices_IndexFunc_impl_Event_impl_wordOk_c1_c1r_L1 a0 a1) ⟨0⟩).bind fun y300 =>
  match y300 with
  | .inl p301 =>
    some p301.t4
  | .inr p302 =>
    some (-1))
noncomputable def slices_ContainsFunc_impl_Event_impl_wordOk_c1_c1r (a0 : (List EventT)) (a1 : Int) : Option Bool :=
  ((slices_IndexFunc_impl_Event_impl_wordOk_c1_c1r a0 a1).bind fun c303 =>
  some (decide (c303 ≥ 0)))
noncomputable def impl_wordOk_c1_r (a0 : BranchT) (a1 : Int) : Option Bool :=
  ((slices_ContainsFunc_impl_Event_impl_wordOk_c1_c1r a0.Events a1).bind fun c304 =>
  some c304)
structure slices_IndexFunc_impl_Branch_impl_wordOk_c1r_G1 where
  t8 : Int
structure slices_IndexFunc_impl_Branch_impl_wordOk_c1r_P1_0 where
  t4 : Int
noncomputable def slices_IndexFunc_impl_Branch_impl_wordOk_c1r_L1 (a0 : (List BranchT)) (a1 : Int) (g296 : slices_IndexFunc_impl_Branch_impl_wordOk_c1r_G1) : Option (slices_IndexFunc_impl_Branch_impl_wordOk_c1r_G1 ⊕ (slices_IndexFunc_impl_Branch_impl_wordOk_c1r_P1_0 ⊕ Unit)) :=
  (if (decide (g296.t8 < ((a0.length : Nat) : Int))) = true then
    (guardO (0 ≤ g296.t8 ∧ g296.t8 < (a0.length : Int)) <|
    ((impl_wordOk_c1_r (nth a0 g296.t8.toNat) a1).bind fun c306 =>
    (if c306 = true then
      some (.inr (.inl (⟨g296.t8⟩)))
    else
      some (.inl ⟨(wI (g296.t8 + 1))⟩))))
  else
    some (.inr (.inr ())))
noncomputable def slices_IndexFunc_impl_Branch_impl_wordOk_c1r (a0 : (List BranchT)) (a1 : Int) : Option Int :=
  ((loopF (slices_IndexFunc_impl_Branch_impl_wordOk_c1r_L1 a0 a1) ⟨0⟩).bind fun y307 =>
  match y307 with
  | .inl p308 =>
    some p308.t4
  | .inr p309 =>
    some (-1))
noncomputable def slices_ContainsFunc_impl_Branch_impl_wordOk_c1r (a0 : (List BranchT)) (a1 : Int) : Option Bool :=
  ((slices_IndexFunc_impl_Branch_impl_wordOk_c1r a0 a1).bind fun c310 =>
  some (decide (c310 ≥ 0)))
structure impl_wordOk_J4001 where
  t12 : Bool
noncomputable def impl_wordOk (a0 : Int) (a1 : TellingsT) : Option Bool :=
  ((((impl_isVersion a0).bind fun c154 =>
    (if (!c154) = true then
      some (⟨true⟩ : impl_wordOk_J4001)
    else
      ((impl_GoodTellings a1).bind fun c294 =>
      some (⟨(!c294)⟩ : impl_wordOk_J4001)))) : Option impl_wordOk_J4001).bind fun p295 =>
  (if p295.t12 = true then
    some false
  else
    ((slices_ContainsFunc_impl_Branch_impl_wordOk_c1r a1.Branches a0).bind fun c311 =>
    some (!c311))))
noncomputable def impl_GoodRegion (a0 : RegionT) : Option Bool :=
  ((impl_isRegion a0.Id).bind fun c152 =>
  (if c152 = true then
    ((impl_wordOk a0.Version a0.Tellings).bind fun c312 =>
    some c312)
  else
    some false))
noncomputable def laws_eqRegion (a0 : RegionT) (a1 : RegionT) : Option Bool :=
  (if (a0.Id != a1.Id) = true then
    some false
  else
    (if (a0.Version != a1.Version) = true then
      some false
    else
      ((laws_eqTellings a0.Tellings a1.Tellings).bind fun c329 =>
      (if (!c329) = true then
        some false
      else
        some true))))
noncomputable def spec_l16Active (a0 : RegionT) : Option Bool :=
  some ((a0.Version.tmod 10) == a0.Id)
noncomputable def impl_Region_active_r (a0 : RegionT) : Option Bool :=
  some ((a0.Version.tmod 10) == a0.Id)
structure WordT where
  Version : Int
  Tellings : TellingsT
  deriving DecidableEq, Inhabited
structure SaidT where
  To : Int
  Word : WordT
  deriving DecidableEq, Inhabited
structure WorldT where
  Regions : (List RegionT)
  Line : (List SaidT)
  deriving DecidableEq, Inhabited
structure laws_szRegionS_G1 where
  t1 : Int
  t5 : Int
structure laws_szRegionS_P1_1 where
  t1 : Int
noncomputable def laws_szRegionS_L1 (a0 : (List RegionT)) (g343 : laws_szRegionS_G1) : Option (laws_szRegionS_G1 ⊕ (Unit ⊕ laws_szRegionS_P1_1)) :=
  (if (decide (g343.t5 < ((a0.length : Nat) : Int))) = true then
    (guardO (0 ≤ g343.t5 ∧ g343.t5 < (a0.length : Int)) <|
    ((laws_szRegion (⟨(nth a0 g343.t5.toNat).Id, (nth a0 g343.t5.toNat).Version, ((nth a0 g343.t5.toNat).Tellings)⟩ : RegionT) g343.t1).bind fun c345 =>
    (if (decide (c345 < 0)) = true then
      some (.inr (.inl ()))
    else
      some (.inl ⟨c345, (wI (g343.t5 + 1))⟩))))
  else
    some (.inr (.inr (⟨g343.t1⟩))))
noncomputable def laws_szRegionS (a0 : (List RegionT)) (a1 : Int) : Option Int :=
  (if (decide ((wI (a1 - ((a0.length : Nat) : Int))) < 0)) = true then
    some (-1)
  else
    ((loopF (laws_szRegionS_L1 a0) ⟨(wI (a1 - ((a0.length : Nat) : Int))), 0⟩).bind fun y346 =>
    match y346 with
    | .inl p347 =>
      some (-1)
    | .inr p348 =>
      some p348.t1))
noncomputable def laws_szWord (a0 : WordT) (a1 : Int) : Option Int :=
  ((laws_szTellings a0.Tellings a1).bind fun c351 =>
  (if (decide (c351 < 0)) = true then
    some (-1)
  else
    some c351))
noncomputable def laws_szSaid (a0 : SaidT) (a1 : Int) : Option Int :=
  ((laws_szWord a0.Word a1).bind fun c352 =>
  (if (decide (c352 < 0)) = true then
    some (-1)
  else
    some c352))
structure laws_szSaidS_G1 where
  t1 : Int
  t5 : Int
structure laws_szSaidS_P1_1 where
  t1 : Int
noncomputable def laws_szSaidS_L1 (a0 : (List SaidT)) (g350 : laws_szSaidS_G1) : Option (laws_szSaidS_G1 ⊕ (Unit ⊕ laws_szSaidS_P1_1)) :=
  (if (decide (g350.t5 < ((a0.length : Nat) : Int))) = true then
    (guardO (0 ≤ g350.t5 ∧ g350.t5 < (a0.length : Int)) <|
    ((laws_szSaid (⟨(nth a0 g350.t5.toNat).To, (⟨((nth a0 g350.t5.toNat).Word).Version, (((nth a0 g350.t5.toNat).Word).Tellings)⟩ : WordT)⟩ : SaidT) g350.t1).bind fun c354 =>
    (if (decide (c354 < 0)) = true then
      some (.inr (.inl ()))
    else
      some (.inl ⟨c354, (wI (g350.t5 + 1))⟩))))
  else
    some (.inr (.inr (⟨g350.t1⟩))))
noncomputable def laws_szSaidS (a0 : (List SaidT)) (a1 : Int) : Option Int :=
  (if (decide ((wI (a1 - ((a0.length : Nat) : Int))) < 0)) = true then
    some (-1)
  else
    ((loopF (laws_szSaidS_L1 a0) ⟨(wI (a1 - ((a0.length : Nat) : Int))), 0⟩).bind fun y355 =>
    match y355 with
    | .inl p356 =>
      some (-1)
    | .inr p357 =>
      some p357.t1))
noncomputable def laws_szWorld (a0 : WorldT) (a1 : Int) : Option Int :=
  ((laws_szRegionS a0.Regions a1).bind fun c349 =>
  (if (decide (c349 < 0)) = true then
    some (-1)
  else
    ((laws_szSaidS a0.Line c349).bind fun c358 =>
    (if (decide (c358 < 0)) = true then
      some (-1)
    else
      some c358))))
noncomputable def laws_toWord (a0 : WordT) : Option WordT :=
  ((laws_toTellings a0.Tellings).bind fun c369 =>
  some (⟨a0.Version, c369⟩ : WordT))
noncomputable def laws_toSaid_F (a0 : SaidT) : Option SaidT :=
  ((laws_toWord a0.Word).bind fun c373 =>
  some (⟨a0.To, c373⟩ : SaidT))
structure laws_toSaidS_G1 where
  t4 : Int
  c0 : (List SaidT)
structure laws_toSaidS_P1_0 where
  c0 : (List SaidT)
noncomputable def laws_toSaidS_L1 (a0 : (List SaidT)) (g372 : laws_toSaidS_G1) : Option (laws_toSaidS_G1 ⊕ laws_toSaidS_P1_0) :=
  (if (decide (g372.t4 < ((a0.length : Nat) : Int))) = true then
    (guardO (0 ≤ g372.t4 ∧ g372.t4 < (a0.length : Int)) <|
    ((laws_toSaid_F (⟨(nth a0 g372.t4.toNat).To, (⟨((nth a0 g372.t4.toNat).Word).Version, (((nth a0 g372.t4.toNat).Word).Tellings)⟩ : WordT)⟩ : SaidT)).bind fun c375 =>
    (guardO (0 ≤ g372.t4 ∧ g372.t4 < ((g372.c0.length : Nat) : Int)) <|
    some (.inl ⟨(wI (g372.t4 + 1)), (g372.c0.set g372.t4.toNat c375)⟩))))
  else
    some (.inr (⟨g372.c0⟩)))
noncomputable def laws_toSaidS (a0 : (List SaidT)) : Option (List SaidT) :=
  (guardO (0 ≤ ((a0.length : Nat) : Int) ∧ ((a0.length : Nat) : Int) * 40 ≤ 281474976710656 ∧ ((a0.length : Nat) : Int) ≤ 9223372036854775807) <|
  ((loopF (laws_toSaidS_L1 a0) ⟨0, (List.replicate a0.length (⟨0, (⟨0, (⟨[]⟩ : TellingsT)⟩ : WordT)⟩ : SaidT))⟩).bind fun y376 =>
  some y376.c0))
structure spec_GoodWorld_J4001 where
  t16 : Bool
structure spec_GoodWorld_G1 where
  t20 : Int
structure spec_GoodWorld_J14006 where
  t33 : Bool
noncomputable def spec_GoodWorld_L1 (a0 : WorldT) (g380 : spec_GoodWorld_G1) : Option (spec_GoodWorld_G1 ⊕ (Unit ⊕ Unit)) :=
  (if (decide (g380.t20 < ((a0.Regions.length : Nat) : Int))) = true then
    (guardO (0 ≤ g380.t20 ∧ g380.t20 < (a0.Regions.length : Int)) <|
    ((((spec_GoodRegion (⟨(nth a0.Regions g380.t20.toNat).Id, (nth a0.Regions g380.t20.toNat).Version, ((nth a0.Regions g380.t20.toNat).Tellings)⟩ : RegionT)).bind fun c383 =>
      (if (!c383) = true then
        some (⟨true⟩ : spec_GoodWorld_J14006)
      else
        some (⟨(((nth a0.Regions g380.t20.toNat).Id) != g380.t20)⟩ : spec_GoodWorld_J14006))) : Option spec_GoodWorld_J14006).bind fun p384 =>
    (if p384.t33 = true then
      some (.inr (.inl ()))
    else
      some (.inl ⟨(wI (g380.t20 + 1))⟩))))
  else
    some (.inr (.inr ())))
structure spec_GoodWorld_G2 where
  t38 : Int
structure spec_GoodWorld_J14012 where
  t56 : Bool
noncomputable def spec_GoodWorld_L2 (a0 : WorldT) (g388 : spec_GoodWorld_G2) : Option (spec_GoodWorld_G2 ⊕ (Unit ⊕ Unit)) :=
  (if (decide (g388.t38 < ((a0.Line.length : Nat) : Int))) = true then
    (guardO (0 ≤ g388.t38 ∧ g388.t38 < (a0.Line.length : Int)) <|
    ((((spec_l1In ((nth a0.Line g388.t38.toNat).To) 0 1).bind fun c392 =>
      (if (!c392) = true then
        some (⟨true⟩ : spec_GoodWorld_J14012)
      else
        ((spec_GoodRegion (⟨0, ((nth a0.Line g388.t38.toNat).Word).Version, (((nth a0.Line g388.t38.toNat).Word).Tellings)⟩ : RegionT)).bind fun c393 =>
        some (⟨(!c393)⟩ : spec_GoodWorld_J14012)))) : Option spec_GoodWorld_J14012).bind fun p394 =>
    (if p394.t56 = true then
      some (.inr (.inl ()))
    else
      some (.inl ⟨(wI (g388.t38 + 1))⟩))))
  else
    some (.inr (.inr ())))
noncomputable def spec_GoodWorld (a0 : WorldT) : Option Bool :=
  (((if (((a0.Regions.length : Nat) : Int) != 2) = true then
      some (⟨true⟩ : spec_GoodWorld_J4001)
    else
      some (⟨(decide (((a0.Line.length : Nat) : Int) > 20))⟩ : spec_GoodWorld_J4001)) : Option spec_GoodWorld_J4001).bind fun p379 =>
  (if p379.t16 = true then
    some false
  else
    ((loopF (spec_GoodWorld_L1 a0) ⟨0⟩).bind fun y385 =>
    match y385 with
    | .inl p386 =>
      some false
    | .inr p387 =>
      ((loopF (spec_GoodWorld_L2 a0) ⟨0⟩).bind fun y395 =>
      match y395 with
      | .inl p396 =>
        some false
      | .inr p397 =>
        some true))))
noncomputable def impl_isPlace (a0 : Int) : Option Bool :=
  ((impl_in a0 0 1).bind fun c420 =>
  some c420)
noncomputable def impl_GoodWorld_c1 (a0 : SaidT) : Option Bool :=
  ((impl_isPlace a0.To).bind fun c421 =>
  (if (!c421) = true then
    some true
  else
    ((impl_wordOk a0.Word.Version a0.Word.Tellings).bind fun c422 =>
    some (!c422))))
structure slices_IndexFunc_impl_Said_impl_GoodWorld_c1_G1 where
  t8 : Int
structure slices_IndexFunc_impl_Said_impl_GoodWorld_c1_P1_0 where
  t4 : Int
noncomputable def slices_IndexFunc_impl_Said_impl_GoodWorld_c1_L1 (a0 : (List SaidT)) (g419 : slices_IndexFunc_impl_Said_impl_GoodWorld_c1_G1) : Option (slices_IndexFunc_impl_Said_impl_GoodWorld_c1_G1 ⊕ (slices_IndexFunc_impl_Said_impl_GoodWorld_c1_P1_0 ⊕ Unit)) :=
  (if (decide (g419.t8 < ((a0.length : Nat) : Int))) = true then
    (guardO (0 ≤ g419.t8 ∧ g419.t8 < (a0.length : Int)) <|
    ((impl_GoodWorld_c1 (⟨(nth a0 g419.t8.toNat).To, (⟨((nth a0 g419.t8.toNat).Word).Version, (((nth a0 g419.t8.toNat).Word).Tellings)⟩ : WordT)⟩ : SaidT)).bind fun c424 =>
    (if c424 = true then
      some (.inr (.inl (⟨g419.t8⟩)))
    else
      some (.inl ⟨(wI (g419.t8 + 1))⟩))))
  else
    some (.inr (.inr ())))
noncomputable def slices_IndexFunc_impl_Said_impl_GoodWorld_c1 (a0 : (List SaidT)) : Option Int :=
  ((loopF (slices_IndexFunc_impl_Said_impl_GoodWorld_c1_L1 a0) ⟨0⟩).bind fun y425 =>
  match y425 with
  | .inl p426 =>
    some p426.t4
  | .inr p427 =>
    some (-1))
noncomputable def slices_ContainsFunc_impl_Said_impl_GoodWorld_c1 (a0 : (List SaidT)) : Option Bool :=
  ((slices_IndexFunc_impl_Said_impl_GoodWorld_c1 a0).bind fun c428 =>
  some (decide (c428 ≥ 0)))
structure impl_GoodWorld_J4001 where
  t14 : Bool
structure impl_GoodWorld_G1 where
  t18 : Int
structure impl_GoodWorld_J14006 where
  t31 : Bool
noncomputable def impl_GoodWorld_L1 (a0 : WorldT) (g411 : impl_GoodWorld_G1) : Option (impl_GoodWorld_G1 ⊕ (Unit ⊕ Unit)) :=
  (if (decide (g411.t18 < ((a0.Regions.length : Nat) : Int))) = true then
    (guardO (0 ≤ g411.t18 ∧ g411.t18 < (a0.Regions.length : Int)) <|
    (((if (((nth a0.Regions g411.t18.toNat).Id) != g411.t18) = true then
        some (⟨true⟩ : impl_GoodWorld_J14006)
      else
        ((impl_GoodRegion (⟨(nth a0.Regions g411.t18.toNat).Id, (nth a0.Regions g411.t18.toNat).Version, ((nth a0.Regions g411.t18.toNat).Tellings)⟩ : RegionT)).bind fun c414 =>
        some (⟨(!c414)⟩ : impl_GoodWorld_J14006))) : Option impl_GoodWorld_J14006).bind fun p415 =>
    (if p415.t31 = true then
      some (.inr (.inl ()))
    else
      some (.inl ⟨(wI (g411.t18 + 1))⟩))))
  else
    some (.inr (.inr ())))
noncomputable def impl_GoodWorld (a0 : WorldT) : Option Bool :=
  (((if (((a0.Regions.length : Nat) : Int) != 2) = true then
      some (⟨true⟩ : impl_GoodWorld_J4001)
    else
      some (⟨(decide (((a0.Line.length : Nat) : Int) > 20))⟩ : impl_GoodWorld_J4001)) : Option impl_GoodWorld_J4001).bind fun p410 =>
  (if p410.t14 = true then
    some false
  else
    ((loopF (impl_GoodWorld_L1 a0) ⟨0⟩).bind fun y416 =>
    match y416 with
    | .inl p417 =>
      some false
    | .inr p418 =>
      ((slices_ContainsFunc_impl_Said_impl_GoodWorld_c1 a0.Line).bind fun c429 =>
      some (!c429)))))
structure laws_eqRegionS_G1 where
  t5 : Int
noncomputable def laws_eqRegionS_L1 (a0 : (List RegionT)) (a1 : (List RegionT)) (g433 : laws_eqRegionS_G1) : Option (laws_eqRegionS_G1 ⊕ (Unit ⊕ Unit)) :=
  (if (decide (g433.t5 < ((a0.length : Nat) : Int))) = true then
    (guardO (0 ≤ g433.t5 ∧ g433.t5 < (a0.length : Int)) <|
    (guardO (0 ≤ g433.t5 ∧ g433.t5 < (a1.length : Int)) <|
    ((laws_eqRegion (⟨(nth a0 g433.t5.toNat).Id, (nth a0 g433.t5.toNat).Version, ((nth a0 g433.t5.toNat).Tellings)⟩ : RegionT) (⟨(nth a1 g433.t5.toNat).Id, (nth a1 g433.t5.toNat).Version, ((nth a1 g433.t5.toNat).Tellings)⟩ : RegionT)).bind fun c435 =>
    (if (!c435) = true then
      some (.inr (.inl ()))
    else
      some (.inl ⟨(wI (g433.t5 + 1))⟩)))))
  else
    some (.inr (.inr ())))
noncomputable def laws_eqRegionS (a0 : (List RegionT)) (a1 : (List RegionT)) : Option Bool :=
  (if (((a0.length : Nat) : Int) != ((a1.length : Nat) : Int)) = true then
    some false
  else
    ((loopF (laws_eqRegionS_L1 a0 a1) ⟨0⟩).bind fun y436 =>
    match y436 with
    | .inl p437 =>
      some false
    | .inr p438 =>
      some true))
noncomputable def laws_eqWord (a0 : WordT) (a1 : WordT) : Option Bool :=
  (if (a0.Version != a1.Version) = true then
    some false
  else
    ((laws_eqTellings a0.Tellings a1.Tellings).bind fun c441 =>
    (if (!c441) = true then
      some false
    else
      some true)))
noncomputable def laws_eqSaid (a0 : SaidT) (a1 : SaidT) : Option Bool :=
  (if (a0.To != a1.To) = true then
    some false
  else
    ((laws_eqWord a0.Word a1.Word).bind fun c442 =>
    (if (!c442) = true then
      some false
    else
      some true)))
structure laws_eqSaidS_G1 where
  t5 : Int
noncomputable def laws_eqSaidS_L1 (a0 : (List SaidT)) (a1 : (List SaidT)) (g440 : laws_eqSaidS_G1) : Option (laws_eqSaidS_G1 ⊕ (Unit ⊕ Unit)) :=
  (if (decide (g440.t5 < ((a0.length : Nat) : Int))) = true then
    (guardO (0 ≤ g440.t5 ∧ g440.t5 < (a0.length : Int)) <|
    (guardO (0 ≤ g440.t5 ∧ g440.t5 < (a1.length : Int)) <|
    ((laws_eqSaid (⟨(nth a0 g440.t5.toNat).To, (⟨((nth a0 g440.t5.toNat).Word).Version, (((nth a0 g440.t5.toNat).Word).Tellings)⟩ : WordT)⟩ : SaidT) (⟨(nth a1 g440.t5.toNat).To, (⟨((nth a1 g440.t5.toNat).Word).Version, (((nth a1 g440.t5.toNat).Word).Tellings)⟩ : WordT)⟩ : SaidT)).bind fun c444 =>
    (if (!c444) = true then
      some (.inr (.inl ()))
    else
      some (.inl ⟨(wI (g440.t5 + 1))⟩)))))
  else
    some (.inr (.inr ())))
noncomputable def laws_eqSaidS (a0 : (List SaidT)) (a1 : (List SaidT)) : Option Bool :=
  (if (((a0.length : Nat) : Int) != ((a1.length : Nat) : Int)) = true then
    some false
  else
    ((loopF (laws_eqSaidS_L1 a0 a1) ⟨0⟩).bind fun y445 =>
    match y445 with
    | .inl p446 =>
      some false
    | .inr p447 =>
      some true))
noncomputable def laws_eqWorld (a0 : WorldT) (a1 : WorldT) : Option Bool :=
  ((laws_eqRegionS a0.Regions a1.Regions).bind fun c439 =>
  (if (!c439) = true then
    some false
  else
    ((laws_eqSaidS a0.Line a1.Line).bind fun c448 =>
    (if (!c448) = true then
      some false
    else
      some true))))
end Go.TL
namespace Go.TL
end Go.TL
namespace Go.TL
end Go.TL
namespace Go.TL
end Go.TL
namespace Go.TL
structure MoveT where
  From : Int
  To : Int
  Many : Int
  deriving DecidableEq, Inhabited
structure laws_eqIntS_G1 where
  t5 : Int
noncomputable def laws_eqIntS_L1 (a0 : (List Int)) (a1 : (List Int)) (g332 : laws_eqIntS_G1) : Option (laws_eqIntS_G1 ⊕ (Unit ⊕ Unit)) :=
  (if (decide (g332.t5 < ((a0.length : Nat) : Int))) = true then
    (guardO (0 ≤ g332.t5 ∧ g332.t5 < (a0.length : Int)) <|
    (guardO (0 ≤ g332.t5 ∧ g332.t5 < (a1.length : Int)) <|
    (if ((nth a0 g332.t5.toNat) != (nth a1 g332.t5.toNat)) = true then
      some (.inr (.inl ()))
    else
      some (.inl ⟨(wI (g332.t5 + 1))⟩))))
  else
    some (.inr (.inr ())))
noncomputable def laws_eqIntS (a0 : (List Int)) (a1 : (List Int)) : Option Bool :=
  (if (((a0.length : Nat) : Int) != ((a1.length : Nat) : Int)) = true then
    some false
  else
    ((loopF (laws_eqIntS_L1 a0 a1) ⟨0⟩).bind fun y333 =>
    match y333 with
    | .inl p334 =>
      some false
    | .inr p335 =>
      some true))
structure laws_markIntS_w_G1 where
  t1 : Int
  t5 : Int
  c0 : (List Int)
structure laws_markIntS_w_P1_0 where
  t1 : Int
  c0 : (List Int)
noncomputable def laws_markIntS_w_L1 (g349 : laws_markIntS_w_G1) : Option (laws_markIntS_w_G1 ⊕ laws_markIntS_w_P1_0) :=
  (if (decide (g349.t5 < ((g349.c0.length : Nat) : Int))) = true then
    (guardO (0 ≤ g349.t5 ∧ g349.t5 < ((g349.c0.length : Nat) : Int)) <|
    some (.inl ⟨(wI (g349.t1 + 1)), (wI (g349.t5 + 1)), (g349.c0.set g349.t5.toNat g349.t1)⟩))
  else
    some (.inr (⟨g349.t1, g349.c0⟩)))
noncomputable def laws_markIntS_w (a0 : (List Int)) (a1 : Int) : Option (Int × (List Int)) :=
  ((loopF (laws_markIntS_w_L1) ⟨a1, 0, a0⟩).bind fun y350 =>
  some (y350.t1, y350.c0))
structure laws_heldIntS_G1 where
  t1 : Int
  t5 : Int
structure laws_heldIntS_P1_1 where
  t1 : Int
noncomputable def laws_heldIntS_L1 (a0 : (List Int)) (g360 : laws_heldIntS_G1) : Option (laws_heldIntS_G1 ⊕ (Unit ⊕ laws_heldIntS_P1_1)) :=
  (if (decide (g360.t5 < ((a0.length : Nat) : Int))) = true then
    (guardO (0 ≤ g360.t5 ∧ g360.t5 < (a0.length : Int)) <|
    (if ((nth a0 g360.t5.toNat) != g360.t1) = true then
      some (.inr (.inl ()))
    else
      some (.inl ⟨(wI (g360.t1 + 1)), (wI (g360.t5 + 1))⟩)))
  else
    some (.inr (.inr (⟨g360.t1⟩))))
noncomputable def laws_heldIntS (a0 : (List Int)) (a1 : Int) : Option Int :=
  ((loopF (laws_heldIntS_L1 a0) ⟨a1, 0⟩).bind fun y361 =>
  match y361 with
  | .inl p362 =>
    some (-1)
  | .inr p363 =>
    some p363.t1)
end Go.TL
namespace Go.TL
structure laws_markBranchS_wd_G1 where
  t1 : Int
  t5 : Int
  c0 : (List BranchT)
structure laws_markBranchS_wd_P1_0 where
  t1 : Int
  c0 : (List BranchT)
noncomputable def laws_markBranchS_wd_L1 (g309 : laws_markBranchS_wd_G1) : Option (laws_markBranchS_wd_G1 ⊕ laws_markBranchS_wd_P1_0) :=
  (if (decide (g309.t5 < ((g309.c0.length : Nat) : Int))) = true then
    (guardO (g309.t5.toNat < g309.c0.length) <|
    (guardO (0 ≤ g309.t5 ∧ g309.t5 < ((g309.c0.length : Nat) : Int)) <|
    ((laws_markEventS_w ((nth g309.c0 g309.t5.toNat).Events) g309.t1).bind fun c317 =>
    (guardO (c317.2.length = ((nth g309.c0 g309.t5.toNat).Events).length) <|
    some (.inl ⟨c317.1, (wI (g309.t5 + 1)), (g309.c0.set g309.t5.toNat (⟨c317.2⟩ : BranchT))⟩)))))
  else
    some (.inr (⟨g309.t1, g309.c0⟩)))
noncomputable def laws_markBranchS_wd (a0 : (List BranchT)) (a1 : Int) : Option (Int × (List BranchT)) :=
  ((loopF (laws_markBranchS_wd_L1) ⟨a1, 0, a0⟩).bind fun y318 =>
  some (y318.t1, y318.c0))
structure laws_toRegionS_d_G1 where
  t4 : Int
  c0 : (List RegionT)
structure laws_toRegionS_d_P1_0 where
  c0 : (List RegionT)
noncomputable def laws_toRegionS_d_L1 (a0 : (List RegionT)) (g544 : laws_toRegionS_d_G1) : Option (laws_toRegionS_d_G1 ⊕ laws_toRegionS_d_P1_0) :=
  (if (decide (g544.t4 < ((a0.length : Nat) : Int))) = true then
    (guardO (0 ≤ g544.t4 ∧ g544.t4 < (a0.length : Int)) <|
    ((laws_toRegion (⟨(nth a0 g544.t4.toNat).Id, (nth a0 g544.t4.toNat).Version, ((nth a0 g544.t4.toNat).Tellings)⟩ : RegionT)).bind fun c546 =>
    (guardO (0 ≤ g544.t4 ∧ g544.t4 < ((g544.c0.length : Nat) : Int)) <|
    some (.inl ⟨(wI (g544.t4 + 1)), (g544.c0.set g544.t4.toNat c546)⟩))))
  else
    some (.inr (⟨g544.c0⟩)))
noncomputable def laws_toRegionS_d (a0 : (List RegionT)) : Option (List RegionT) :=
  (guardO (0 ≤ ((a0.length : Nat) : Int) ∧ ((a0.length : Nat) : Int) * 40 ≤ 281474976710656 ∧ ((a0.length : Nat) : Int) ≤ 9223372036854775807) <|
  ((loopF (laws_toRegionS_d_L1 a0) ⟨0, (List.replicate a0.length (⟨0, 0, (⟨[]⟩ : TellingsT)⟩ : RegionT))⟩).bind fun y547 =>
  some y547.c0))
noncomputable def laws_toWorld_d (a0 : WorldT) : Option WorldT :=
  ((laws_toRegionS_d a0.Regions).bind fun c556 =>
  ((laws_toSaidS a0.Line).bind fun c557 =>
  some (⟨c556, c557⟩ : WorldT)))
structure spec_LeadersIn_G1 where
  t13 : Int
  c0 : (List Int)
structure spec_LeadersIn_P1_0 where
  c0 : (List Int)
noncomputable def spec_LeadersIn_L1 (a0 : WorldT) (g589 : spec_LeadersIn_G1) : Option (spec_LeadersIn_G1 ⊕ spec_LeadersIn_P1_0) :=
  (if (decide (g589.t13 < ((a0.Regions.length : Nat) : Int))) = true then
    (guardO (0 ≤ g589.t13 ∧ g589.t13 < (a0.Regions.length : Int)) <|
    ((spec_l16Active (⟨(nth a0.Regions g589.t13.toNat).Id, (nth a0.Regions g589.t13.toNat).Version, ((nth a0.Regions g589.t13.toNat).Tellings)⟩ : RegionT)).bind fun c591 =>
    (if c591 = true then
      (guardO ((g589.c0.length + 1) * 8 ≤ 140737488355328) <|
      some (.inl ⟨(wI (g589.t13 + 1)), (g589.c0 ++ ([g589.t13]))⟩))
    else
      some (.inl ⟨(wI (g589.t13 + 1)), g589.c0⟩))))
  else
    some (.inr (⟨g589.c0⟩)))
noncomputable def spec_LeadersIn (a0 : WorldT) : Option ((List Int) × Bool) :=
  ((spec_GoodWorld a0).bind fun c588 =>
  (if (!c588) = true then
    some ([], false)
  else
    ((loopF (spec_LeadersIn_L1 a0) ⟨0, []⟩).bind fun y592 =>
    some (y592.c0, true))))
structure impl_LeadersIn_G1 where
  t13 : Int
  c1 : (List Int)
structure impl_LeadersIn_P1_0 where
  c0 : (List Int)
noncomputable def impl_LeadersIn_L1 (a0 : WorldT) (g617 : impl_LeadersIn_G1) : Option (impl_LeadersIn_G1 ⊕ impl_LeadersIn_P1_0) :=
  (if (decide (g617.t13 < ((a0.Regions.length : Nat) : Int))) = true then
    (guardO (0 ≤ g617.t13 ∧ g617.t13 < (a0.Regions.length : Int)) <|
    ((impl_Region_active_r (⟨(nth a0.Regions g617.t13.toNat).Id, (nth a0.Regions g617.t13.toNat).Version, ((nth a0.Regions g617.t13.toNat).Tellings)⟩ : RegionT)).bind fun c619 =>
    (if c619 = true then
      (guardO ((g617.c1.length + 1) * 8 ≤ 140737488355328) <|
      some (.inl ⟨(wI (g617.t13 + 1)), (g617.c1 ++ ([g617.t13]))⟩))
    else
      some (.inl ⟨(wI (g617.t13 + 1)), g617.c1⟩))))
  else
    some (.inr (⟨g617.c1⟩)))
noncomputable def impl_LeadersIn (a0 : WorldT) : Option ((List Int) × Bool) :=
  ((impl_GoodWorld a0).bind fun c616 =>
  (if (!c616) = true then
    some ([], false)
  else
    ((loopF (impl_LeadersIn_L1 a0) ⟨0, []⟩).bind fun y620 =>
    some (y620.c0, true))))
structure laws_markRegionS_wd_G1 where
  t1 : Int
  t5 : Int
  c0 : (List RegionT)
structure laws_markRegionS_wd_P1_0 where
  t1 : Int
  c0 : (List RegionT)
noncomputable def laws_markRegionS_wd_L1 (g647 : laws_markRegionS_wd_G1) : Option (laws_markRegionS_wd_G1 ⊕ laws_markRegionS_wd_P1_0) :=
  (if (decide (g647.t5 < ((g647.c0.length : Nat) : Int))) = true then
    (guardO (g647.t5.toNat < g647.c0.length) <|
    (guardO (0 ≤ g647.t5 ∧ g647.t5 < ((g647.c0.length : Nat) : Int)) <|
    (guardO (0 ≤ g647.t5 ∧ g647.t5 < ((g647.c0.length : Nat) : Int)) <|
    (guardO (0 ≤ g647.t5 ∧ g647.t5 < ((g647.c0.length : Nat) : Int)) <|
    ((laws_markBranchS_wd (((nth g647.c0 g647.t5.toNat).Tellings).Branches) (wI ((wI (g647.t1 + 1)) + 1))).bind fun c649 =>
    (guardO (c649.2.length = (((nth g647.c0 g647.t5.toNat).Tellings).Branches).length) <|
    some (.inl ⟨c649.1, (wI (g647.t5 + 1)), (g647.c0.set g647.t5.toNat (⟨g647.t1, (wI (g647.t1 + 1)), (⟨c649.2⟩ : TellingsT)⟩ : RegionT))⟩)))))))
  else
    some (.inr (⟨g647.t1, g647.c0⟩)))
noncomputable def laws_markRegionS_wd (a0 : (List RegionT)) (a1 : Int) : Option (Int × (List RegionT)) :=
  ((loopF (laws_markRegionS_wd_L1) ⟨a1, 0, a0⟩).bind fun y650 =>
  some (y650.t1, y650.c0))
structure laws_markSaidS_wd_G1 where
  t1 : Int
  t5 : Int
  c0 : (List SaidT)
structure laws_markSaidS_wd_P1_0 where
  t1 : Int
  c0 : (List SaidT)
noncomputable def laws_markSaidS_wd_L1 (g654 : laws_markSaidS_wd_G1) : Option (laws_markSaidS_wd_G1 ⊕ laws_markSaidS_wd_P1_0) :=
  (if (decide (g654.t5 < ((g654.c0.length : Nat) : Int))) = true then
    (guardO (g654.t5.toNat < g654.c0.length) <|
    (guardO (0 ≤ g654.t5 ∧ g654.t5 < ((g654.c0.length : Nat) : Int)) <|
    (guardO (0 ≤ g654.t5 ∧ g654.t5 < ((g654.c0.length : Nat) : Int)) <|
    (guardO (0 ≤ g654.t5 ∧ g654.t5 < ((g654.c0.length : Nat) : Int)) <|
    ((laws_markBranchS_wd ((((nth g654.c0 g654.t5.toNat).Word).Tellings).Branches) (wI ((wI (g654.t1 + 1)) + 1))).bind fun c656 =>
    (guardO (c656.2.length = ((((nth g654.c0 g654.t5.toNat).Word).Tellings).Branches).length) <|
    some (.inl ⟨c656.1, (wI (g654.t5 + 1)), (g654.c0.set g654.t5.toNat (⟨g654.t1, (⟨(wI (g654.t1 + 1)), (⟨c656.2⟩ : TellingsT)⟩ : WordT)⟩ : SaidT))⟩)))))))
  else
    some (.inr (⟨g654.t1, g654.c0⟩)))
noncomputable def laws_markSaidS_wd (a0 : (List SaidT)) (a1 : Int) : Option (Int × (List SaidT)) :=
  ((loopF (laws_markSaidS_wd_L1) ⟨a1, 0, a0⟩).bind fun y657 =>
  some (y657.t1, y657.c0))
noncomputable def laws_markWorld_wwdd (a0 : WorldT) (a1 : Int) : Option (Int × (List RegionT) × (List SaidT)) :=
  ((laws_markRegionS_wd a0.Regions a1).bind fun c651 =>
  (guardO (c651.2.length = a0.Regions.length) <|
  ((laws_markSaidS_wd a0.Line c651.1).bind fun c658 =>
  (guardO (c658.2.length = a0.Line.length) <|
  some (c658.1, c651.2, c658.2)))))
structure laws_FnExactLeadersIn_J4008 where
  t40 : Bool
structure laws_FnExactLeadersIn_J4014 where
  t61 : Bool
structure laws_FnExactLeadersIn_J4025 where
  t87 : Bool
noncomputable def laws_FnExactLeadersIn (a0 : WorldT) : Option Bool :=
  ((laws_szWorld a0 1048576).bind fun c539 =>
  (if (decide (c539 < 0)) = true then
    some true
  else
    ((laws_toWorld_d a0).bind fun c558 =>
    ((spec_LeadersIn c558).bind fun c593 =>
    ((laws_toWorld_d a0).bind fun c594 =>
    ((impl_LeadersIn c594).bind fun c621 =>
    ((((laws_eqIntS c621.1 c593.1).bind fun c626 =>
      (if (!c626) = true then
        some (⟨true⟩ : laws_FnExactLeadersIn_J4008)
      else
        some (⟨(!(c621.2 == c593.2))⟩ : laws_FnExactLeadersIn_J4008))) : Option laws_FnExactLeadersIn_J4008).bind fun p627 =>
    (if p627.t40 = true then
      some false
    else
      ((laws_toWorld_d a0).bind fun c628 =>
      ((laws_eqWorld c594 c628).bind fun c644 =>
      (if (!c644) = true then
        some false
      else
        ((laws_markWorld_wwdd c594 1).bind fun c659 =>
        (guardO (c659.2.1.length = c594.Regions.length) <|
        (guardO (c659.2.2.length = c594.Line.length) <|
        (((if (decide (c659.1 < 0)) = true then
            some (⟨true⟩ : laws_FnExactLeadersIn_J4014)
          else
            ((laws_eqIntS c621.1 c593.1).bind fun c660 =>
            (if (!c660) = true then
              some (⟨true⟩ : laws_FnExactLeadersIn_J4014)
            else
              some (⟨(!(c621.2 == c593.2))⟩ : laws_FnExactLeadersIn_J4014)))) : Option laws_FnExactLeadersIn_J4014).bind fun p661 =>
        (if p661.t61 = true then
          some false
        else
          ((laws_markIntS_w c621.1 1).bind fun c665 =>
          (guardO (c665.2.length = c621.1.length) <|
          ((laws_heldIntS c665.2 1).bind fun c670 =>
          (if (decide (c670 < 0)) = true then
            some false
          else
            (if (c670 != c665.1) = true then
              some false
            else
              ((laws_toWorld_d a0).bind fun c671 =>
              ((impl_LeadersIn c671).bind fun c672 =>
              ((((laws_eqIntS c672.1 c593.1).bind fun c673 =>
                (if (!c673) = true then
                  some (⟨true⟩ : laws_FnExactLeadersIn_J4025)
                else
                  some (⟨(!(c672.2 == c593.2))⟩ : laws_FnExactLeadersIn_J4025))) : Option laws_FnExactLeadersIn_J4025).bind fun p674 =>
              (if p674.t87 = true then
                some false
              else
                ((laws_heldIntS c665.2 1).bind fun c675 =>
                (if (decide (c675 < 0)) = true then
                  some false
                else
                  (if (c675 != c665.1) = true then
                    some false
                  else
                    some true))))))))))))))))))))))))))))
end Go.TL

import Derived.Test.YtjkeoippmlmfbaaGreatDoorG21PlR3M
import Derived.Test.YtjkeoippmlmfbaaGreatDoorG19PlTrim
import Derived.Test.YtjkeoippmlmfbaaGreatDoorG29PpOrd
set_option linter.unusedSimpArgs false
set_option linter.unusedVariables false
namespace Go.TL
structure spec_l15Add_G1 where
  t15 : Int
noncomputable def spec_l15Add_L1 (a0 : (List BranchT)) (a1 : (List EventT)) (g169 : spec_l15Add_G1) : Option (spec_l15Add_G1 ⊕ (Unit ⊕ Unit)) :=
  (if (decide (g169.t15 < ((a0.length : Nat) : Int))) = true then
    (guardO (0 ≤ g169.t15 ∧ g169.t15 < (a0.length : Int)) <|
    ((spec_l15Begins ((nth a0 g169.t15.toNat).Events) a1).bind fun c171 =>
    (if c171 = true then
      some (.inr (.inl ()))
    else
      some (.inl ⟨(wI (g169.t15 + 1))⟩))))
  else
    some (.inr (.inr ())))
structure spec_l15Add_G2 where
  t6 : Bool
  t27 : Int
  c0 : (List BranchT)
structure spec_l15Add_P2_0 where
  t6 : Bool
  c0 : (List BranchT)
structure spec_l15Add_J14014 where
  t47 : Bool
noncomputable def spec_l15Add_L2 (a0 : (List BranchT)) (a1 : (List EventT)) (g175 : spec_l15Add_G2) : Option (spec_l15Add_G2 ⊕ spec_l15Add_P2_0) :=
  (if (decide (g175.t27 < ((a0.length : Nat) : Int))) = true then
    (guardO (0 ≤ g175.t27 ∧ g175.t27 < (a0.length : Int)) <|
    ((spec_l15Begins a1 ((nth a0 g175.t27.toNat).Events)).bind fun c183 =>
    (if c183 = true then
      some (.inl ⟨g175.t6,(wI (g175.t27 + 1)),g175.c0⟩)
    else
      ((spec_l15Compare ((nth a0 g175.t27.toNat).Events) a1).bind fun c184 =>
      (((if (decide (c184.1 > 0)) = true then
          some (⟨(!g175.t6)⟩ : spec_l15Add_J14014)
        else
          some (⟨false⟩ : spec_l15Add_J14014)) : Option spec_l15Add_J14014).bind fun p185 =>
      (if p185.t47 = true then
        ((spec_l15OwnEvents a1).bind fun c186 =>
        (guardO ((g175.c0.length + 1) * 24 ≤ 140737488355328) <|
        ((spec_l15OwnEvents ((nth a0 g175.t27.toNat).Events)).bind fun c188 =>
        (guardO (((g175.c0.length + 1) + 1) * 24 ≤ 140737488355328) <|
        some (.inl ⟨true,(wI (g175.t27 + 1)),((g175.c0 ++ [(⟨c186⟩ : BranchT)]) ++ [(⟨c188⟩ : BranchT)])⟩)))))
      else
        ((spec_l15OwnEvents ((nth a0 g175.t27.toNat).Events)).bind fun c189 =>
        (guardO ((g175.c0.length + 1) * 24 ≤ 140737488355328) <|
        some (.inl ⟨g175.t6,(wI (g175.t27 + 1)),(g175.c0 ++ [(⟨c189⟩ : BranchT)])⟩)))))))))
  else
    some (.inr (⟨g175.t6,g175.c0⟩)))
noncomputable def spec_l15Add (a0 : (List BranchT)) (a1 : (List EventT)) : Option (List BranchT) :=
  ((loopF (spec_l15Add_L1 a0 a1) ⟨0⟩).bind fun y172 =>
  match y172 with
  | .inl p173 =>
    some a0
  | .inr p174 =>
    ((loopF (spec_l15Add_L2 a0 a1) ⟨false,0,[]⟩).bind fun y190 =>
    (if (!y190.t6) = true then
      ((spec_l15OwnEvents a1).bind fun c191 =>
      (guardO ((y190.c0.length + 1) * 24 ≤ 140737488355328) <|
      some (y190.c0 ++ [(⟨c191⟩ : BranchT)])))
    else
      some y190.c0)))
structure spec_l15Own_G1 where
  t9 : Int
  c1 : (List BranchT)
structure spec_l15Own_P1_0 where
  c1 : (List BranchT)
noncomputable def spec_l15Own_L1 (a0 : TellingsT) (g212 : spec_l15Own_G1) : Option (spec_l15Own_G1 ⊕ spec_l15Own_P1_0) :=
  (if (decide (g212.t9 < ((a0.Branches.length : Nat) : Int))) = true then
    (guardO (0 ≤ g212.t9 ∧ g212.t9 < (a0.Branches.length : Int)) <|
    ((spec_l15OwnEvents ((nth a0.Branches g212.t9.toNat).Events)).bind fun c214 =>
    (guardO ((g212.c1.length + 1) * 24 ≤ 140737488355328) <|
    some (.inl ⟨(wI (g212.t9 + 1)),(g212.c1 ++ [(⟨c214⟩ : BranchT)])⟩))))
  else
    some (.inr (⟨g212.c1⟩)))
noncomputable def spec_l15Own (a0 : TellingsT) : Option TellingsT :=
  ((loopF (spec_l15Own_L1 a0) ⟨0,[]⟩).bind fun y215 =>
  some (⟨y215.c1⟩ : TellingsT))
end Go.TL
namespace Go.TL
noncomputable def impl_added_c1_r (a0 : BranchT) (a1 : (List EventT)) : Option Bool :=
  ((impl_begins a1 a0.Events).bind fun c340 =>
  some c340)
structure slices_IndexFunc_impl_Branch_impl_added_c1r_G1 where
  t8 : Int
structure slices_IndexFunc_impl_Branch_impl_added_c1r_P1_0 where
  t4 : Int
noncomputable def slices_IndexFunc_impl_Branch_impl_added_c1r_L1 (a0 : (List BranchT)) (a1 : (List EventT)) (g339 : slices_IndexFunc_impl_Branch_impl_added_c1r_G1) : Option (slices_IndexFunc_impl_Branch_impl_added_c1r_G1 ⊕ (slices_IndexFunc_impl_Branch_impl_added_c1r_P1_0 ⊕ Unit)) :=
  (if (decide (g339.t8 < ((a0.length : Nat) : Int))) = true then
    (guardO (0 ≤ g339.t8 ∧ g339.t8 < (a0.length : Int)) <|
    ((impl_added_c1_r (nth a0 g339.t8.toNat) a1).bind fun c342 =>
    (if c342 = true then
      some (.inr (.inl (⟨g339.t8⟩)))
    else
      some (.inl ⟨(wI (g339.t8 + 1))⟩))))
  else
    some (.inr (.inr ())))
noncomputable def slices_IndexFunc_impl_Branch_impl_added_c1r (a0 : (List BranchT)) (a1 : (List EventT)) : Option Int :=
  ((loopF (slices_IndexFunc_impl_Branch_impl_added_c1r_L1 a0 a1) ⟨0⟩).bind fun y343 =>
  match y343 with
  | .inl p344 =>
    some p344.t4
  | .inr p345 =>
    some (-1))
noncomputable def slices_ContainsFunc_impl_Branch_impl_added_c1r (a0 : (List BranchT)) (a1 : (List EventT)) : Option Bool :=
  ((slices_IndexFunc_impl_Branch_impl_added_c1r a0 a1).bind fun c346 =>
  some (decide (c346 ≥ 0)))
noncomputable def impl_added_c2_r (a0 : BranchT) (a1 : (List EventT)) : Option Bool :=
  ((impl_begins a0.Events a1).bind fun c348 =>
  some c348)
noncomputable def slices_DeleteFunc_impl_Branch_deep (a0 : (List BranchT)) (a1 : (List EventT)) : Option (List BranchT) :=
  guardO (a0.length ≤ 9223372036854775807 ∧ (a0.all fun b => (impl_added_c2_r b a1).isSome) = true) (some (a0.filter fun b => !((impl_added_c2_r b a1).getD false)))
noncomputable def impl_added_c3 (a0 : BranchT) (a1 : BranchT) : Option Int :=
  ((impl_branchOrder a0.Events a1.Events).bind fun c355 =>
  some c355)
noncomputable def slices_SortFunc_impl_Branch_deep (a0 : (List BranchT)) : Option (List BranchT) :=
  guardO (a0.length < 4611686018427387904 ∧ (a0.all fun b => decide (b.Events.length ≤ 1000)) = true ∧ aptO brL a0 = true) (some (sortO brL a0))
noncomputable def impl_added (a0 : TellingsT) (a1 : (List EventT)) : Option TellingsT :=
  ((impl_cloneTellings a0).bind fun c351 =>
  ((slices_ContainsFunc_impl_Branch_impl_added_c1r c351.Branches a1).bind fun c352 =>
  (if c352 = true then
    some c351
  else
    ((slices_DeleteFunc_impl_Branch_deep c351.Branches a1).bind fun c353 =>
    ((slices_Clone_impl_Event a1).bind fun c354 =>
    (guardO ((c353.length + 1) * 24 ≤ 140737488355328) <|
    ((slices_SortFunc_impl_Branch_deep (c353 ++ [(⟨c354⟩ : BranchT)])).bind fun c356 =>
    (guardO (c356.length = (c353.length + 1)) <|
    some (⟨c356⟩ : TellingsT)))))))))
structure spec_l15Merge_G1 where
  t5 : (List BranchT)
  t13 : Int
structure spec_l15Merge_P1_0 where
  t5 : (List BranchT)
noncomputable def spec_l15Merge_L1 (a1 : TellingsT) (g425 : spec_l15Merge_G1) : Option (spec_l15Merge_G1 ⊕ spec_l15Merge_P1_0) :=
  (if (decide (g425.t13 < ((a1.Branches.length : Nat) : Int))) = true then
    (guardO (0 ≤ g425.t13 ∧ g425.t13 < (a1.Branches.length : Int)) <|
    ((spec_l15Add g425.t5 ((nth a1.Branches g425.t13.toNat).Events)).bind fun c427 =>
    some (.inl ⟨c427,(wI (g425.t13 + 1))⟩)))
  else
    some (.inr (⟨g425.t5⟩)))
noncomputable def spec_l15Merge (a0 : TellingsT) (a1 : TellingsT) : Option TellingsT :=
  ((loopF (spec_l15Merge_L1 a1) ⟨a0.Branches,0⟩).bind fun y428 =>
  ((spec_l15Own (⟨y428.t5⟩ : TellingsT)).bind fun c429 =>
  some c429))
structure spec_MergeTellings_J4001 where
  t14 : Bool
noncomputable def spec_MergeTellings (a0 : TellingsT) (a1 : TellingsT) : Option (TellingsT × Bool) :=
  ((((spec_GoodTellings a0).bind fun c422 =>
    (if (!c422) = true then
      some (⟨true⟩ : spec_MergeTellings_J4001)
    else
      ((spec_GoodTellings a1).bind fun c423 =>
      some (⟨(!c423)⟩ : spec_MergeTellings_J4001)))) : Option spec_MergeTellings_J4001).bind fun p424 =>
  (if p424.t14 = true then
    some ((⟨[]⟩ : TellingsT),false)
  else
    ((spec_l15Merge a0 a1).bind fun c431 =>
    ((spec_GoodTellings c431).bind fun c432 =>
    (if (!c432) = true then
      some ((⟨[]⟩ : TellingsT),false)
    else
      some (c431,true))))))
structure impl_MergeTellings_J4001 where
  t16 : Bool
structure impl_MergeTellings_G1 where
  t23 : Int
  c2 : (List BranchT)
structure impl_MergeTellings_P1_0 where
  c2 : (List BranchT)
noncomputable def impl_MergeTellings_L1 (a1 : TellingsT) (g440 : impl_MergeTellings_G1) : Option (impl_MergeTellings_G1 ⊕ impl_MergeTellings_P1_0) :=
  (if (decide (g440.t23 < ((a1.Branches.length : Nat) : Int))) = true then
    (guardO (0 ≤ g440.t23 ∧ g440.t23 < (a1.Branches.length : Int)) <|
    ((impl_added (⟨g440.c2⟩ : TellingsT) ((nth a1.Branches g440.t23.toNat).Events)).bind fun c442 =>
    some (.inl ⟨(wI (g440.t23 + 1)),c442.Branches⟩)))
  else
    some (.inr (⟨g440.c2⟩)))
noncomputable def impl_MergeTellings (a0 : TellingsT) (a1 : TellingsT) : Option (TellingsT × Bool) :=
  ((((impl_GoodTellings a0).bind fun c436 =>
    (if (!c436) = true then
      some (⟨true⟩ : impl_MergeTellings_J4001)
    else
      ((impl_GoodTellings a1).bind fun c437 =>
      some (⟨(!c437)⟩ : impl_MergeTellings_J4001)))) : Option impl_MergeTellings_J4001).bind fun p438 =>
  (if p438.t16 = true then
    some ((⟨[]⟩ : TellingsT),false)
  else
    ((impl_cloneTellings a0).bind fun c439 =>
    ((loopF (impl_MergeTellings_L1 a1) ⟨0,c439.Branches⟩).bind fun y443 =>
    (if (decide (((y443.c2.length : Nat) : Int) > 12)) = true then
      some ((⟨[]⟩ : TellingsT),false)
    else
      some ((⟨y443.c2⟩ : TellingsT),true))))))
structure spec_HearWord_J4001 where
  t19 : Bool
structure spec_HearWord_J2036 where
  b0_1 : Int
noncomputable def spec_HearWord (a0 : RegionT) (a1 : WordT) : Option (RegionT × Bool) :=
  ((((spec_GoodRegion a0).bind fun c488 =>
    (if (!c488) = true then
      some (⟨true⟩ : spec_HearWord_J4001)
    else
      ((spec_GoodRegion (⟨0,a1.Version,a1.Tellings⟩ : RegionT)).bind fun c489 =>
      some (⟨(!c489)⟩ : spec_HearWord_J4001)))) : Option spec_HearWord_J4001).bind fun p490 =>
  (if p490.t19 = true then
    some ((⟨0,0,(⟨[]⟩ : TellingsT)⟩ : RegionT),false)
  else
    ((spec_MergeTellings a0.Tellings a1.Tellings).bind fun c491 =>
    (if (!c491.2) = true then
      some ((⟨0,0,(⟨[]⟩ : TellingsT)⟩ : RegionT),false)
    else
      (((if (decide (a1.Version > a0.Version)) = true then
          some (⟨a1.Version⟩ : spec_HearWord_J2036)
        else
          some (⟨a0.Version⟩ : spec_HearWord_J2036)) : Option spec_HearWord_J2036).bind fun p492 =>
      some ((⟨a0.Id,p492.b0_1,c491.1⟩ : RegionT),true))))))
noncomputable def impl_Region_hear_od (a0 : RegionT) (a1 : WordT) : Option (Bool × RegionT) :=
  ((impl_MergeTellings a0.Tellings a1.Tellings).bind fun c523 =>
  (if c523.2 = true then
    some (c523.2,(⟨a0.Id,(max a0.Version a1.Version),c523.1⟩ : RegionT))
  else
    some (c523.2,a0)))
structure impl_HearWord_J4001 where
  t17 : Bool
noncomputable def impl_HearWord (a0 : RegionT) (a1 : WordT) : Option (RegionT × Bool) :=
  ((((impl_GoodRegion a0).bind fun c518 =>
    (if (!c518) = true then
      some (⟨true⟩ : impl_HearWord_J4001)
    else
      ((impl_wordOk a1.Version a1.Tellings).bind fun c519 =>
      some (⟨(!c519)⟩ : impl_HearWord_J4001)))) : Option impl_HearWord_J4001).bind fun p520 =>
  (if p520.t17 = true then
    some ((⟨0,0,(⟨[]⟩ : TellingsT)⟩ : RegionT),false)
  else
    ((impl_cloneRegion a0).bind fun c522 =>
    ((impl_Region_hear_od c522 a1).bind fun c524 =>
    (if (!c524.1) = true then
      some ((⟨0,0,(⟨[]⟩ : TellingsT)⟩ : RegionT),false)
    else
      some (c524.2,true))))))
structure laws_FnExactHearWord_J4012 where
  t53 : Bool
structure laws_FnExactHearWord_J4021 where
  t82 : Bool
structure laws_FnExactHearWord_J4032 where
  t110 : Bool
noncomputable def laws_FnExactHearWord (a0 : RegionT) (a1 : WordT) : Option Bool :=
  ((laws_szRegion a0 1048576).bind fun c464 =>
  (if (decide (c464 < 0)) = true then
    some true
  else
    ((laws_szWord a1 c464).bind fun c466 =>
    (if (decide (c466 < 0)) = true then
      some true
    else
      ((laws_toRegion a0).bind fun c468 =>
      ((laws_toWord a1).bind fun c470 =>
      ((spec_HearWord c468 c470).bind fun c493 =>
      ((laws_toRegion a0).bind fun c494 =>
      ((laws_toWord a1).bind fun c495 =>
      ((impl_HearWord c494 c495).bind fun c525 =>
      ((((laws_eqRegion c525.1 c493.1).bind fun c527 =>
        (if (!c527) = true then
          some (⟨true⟩ : laws_FnExactHearWord_J4012)
        else
          some (⟨(!(c525.2 == c493.2))⟩ : laws_FnExactHearWord_J4012))) : Option laws_FnExactHearWord_J4012).bind fun p528 =>
      (if p528.t53 = true then
        some false
      else
        ((laws_toRegion a0).bind fun c529 =>
        ((laws_eqRegion c494 c529).bind fun c530 =>
        (if (!c530) = true then
          some false
        else
          ((laws_toWord a1).bind fun c531 =>
          ((laws_eqWord c495 c531).bind fun c533 =>
          (if (!c533) = true then
            some false
          else
            ((laws_markRegion_wd c494 1).bind fun c535 =>
            (guardO (c535.2.length = c494.Tellings.Branches.length) <|
            ((laws_markWord_wd c495 c535.1).bind fun c537 =>
            (guardO (c537.2.length = c495.Tellings.Branches.length) <|
            (((if (decide (c537.1 < 0)) = true then
                some (⟨true⟩ : laws_FnExactHearWord_J4021)
              else
                ((laws_eqRegion c525.1 c493.1).bind fun c538 =>
                (if (!c538) = true then
                  some (⟨true⟩ : laws_FnExactHearWord_J4021)
                else
                  some (⟨(!(c525.2 == c493.2))⟩ : laws_FnExactHearWord_J4021)))) : Option laws_FnExactHearWord_J4021).bind fun p539 =>
            (if p539.t82 = true then
              some false
            else
              ((laws_markRegion_wd c525.1 1).bind fun c540 =>
              (guardO (c540.2.length = c525.1.Tellings.Branches.length) <|
              ((laws_heldRegion (⟨c525.1.Id,c525.1.Version,(⟨c540.2⟩ : TellingsT)⟩ : RegionT) 1).bind fun c542 =>
              (if (decide (c542 < 0)) = true then
                some false
              else
                (if (c542 != c540.1) = true then
                  some false
                else
                  ((laws_toRegion a0).bind fun c543 =>
                  ((laws_toWord a1).bind fun c544 =>
                  ((impl_HearWord c543 c544).bind fun c545 =>
                  ((((laws_eqRegion c545.1 c493.1).bind fun c546 =>
                    (if (!c546) = true then
                      some (⟨true⟩ : laws_FnExactHearWord_J4032)
                    else
                      some (⟨(!(c545.2 == c493.2))⟩ : laws_FnExactHearWord_J4032))) : Option laws_FnExactHearWord_J4032).bind fun p547 =>
                  (if p547.t110 = true then
                    some false
                  else
                    ((laws_heldRegion (⟨c525.1.Id,c525.1.Version,(⟨c540.2⟩ : TellingsT)⟩ : RegionT) 1).bind fun c548 =>
                    (if (decide (c548 < 0)) = true then
                      some false
                    else
                      (if (c548 != c540.1) = true then
                        some false
                      else
                        some true)))))))))))))))))))))))))))))))))))))
end Go.TL
namespace Go.TL
end Go.TL

import Derived.Test.YtjkeoippmlmfbaaGreatDoorG21PlR3M
import Derived.Test.YtjkeoippmlmfbaaGreatDoorG19PlTrim
import Derived.Test.YtjkeoippmlmfbaaGreatDoorG29PpOrd
set_option linter.unusedSimpArgs false
set_option linter.unusedVariables false
namespace Go.TL
structure spec_l15Add_G1 where
  t15 : Int
noncomputable def spec_l15Add_L1 (a0 : (List BranchT)) (a1 : (List EventT)) (g169 : spec_l15Add_G1) : Option (spec_l15Add_G1 ⊕ (Unit ⊕ Unit)) :=
  (if (decide (g169.t15 < ((a0.length : Nat) : Int))) = true then
    (guardO (0 ≤ g169.t15 ∧ g169.t15 < (a0.length : Int)) <|
    ((spec_l15Begins ((nth a0 g169.t15.toNat).Events) a1).bind fun c171 =>
    (if c171 = true then
      some (.inr (.inl ()))
    else
      some (.inl ⟨(wI (g169.t15 + 1))⟩))))
  else
    some (.inr (.inr ())))
structure spec_l15Add_G2 where
  t6 : Bool
  t27 : Int
  c0 : (List BranchT)
structure spec_l15Add_P2_0 where
  t6 : Bool
  c0 : (List BranchT)
structure spec_l15Add_J14014 where
  t47 : Bool
noncomputable def spec_l15Add_L2 (a0 : (List BranchT)) (a1 : (List EventT)) (g175 : spec_l15Add_G2) : Option (spec_l15Add_G2 ⊕ spec_l15Add_P2_0) :=
  (if (decide (g175.t27 < ((a0.length : Nat) : Int))) = true then
    (guardO (0 ≤ g175.t27 ∧ g175.t27 < (a0.length : Int)) <|
    ((spec_l15Begins a1 ((nth a0 g175.t27.toNat).Events)).bind fun c183 =>
    (if c183 = true then
      some (.inl ⟨g175.t6,(wI (g175.t27 + 1)),g175.c0⟩)
    else
      ((spec_l15Compare ((nth a0 g175.t27.toNat).Events) a1).bind fun c184 =>
      (((if (decide (c184.1 > 0)) = true then
          some (⟨(!g175.t6)⟩ : spec_l15Add_J14014)
        else
          some (⟨false⟩ : spec_l15Add_J14014)) : Option spec_l15Add_J14014).bind fun p185 =>
      (if p185.t47 = true then
        ((spec_l15OwnEvents a1).bind fun c186 =>
        (guardO ((g175.c0.length + 1) * 24 ≤ 140737488355328) <|
        ((spec_l15OwnEvents ((nth a0 g175.t27.toNat).Events)).bind fun c188 =>
        (guardO (((g175.c0.length + 1) + 1) * 24 ≤ 140737488355328) <|
        some (.inl ⟨true,(wI (g175.t27 + 1)),((g175.c0 ++ [(⟨c186⟩ : BranchT)]) ++ [(⟨c188⟩ : BranchT)])⟩)))))
      else
        ((spec_l15OwnEvents ((nth a0 g175.t27.toNat).Events)).bind fun c189 =>
        (guardO ((g175.c0.length + 1) * 24 ≤ 140737488355328) <|
        some (.inl ⟨g175.t6,(wI (g175.t27 + 1)),(g175.c0 ++ [(⟨c189⟩ : BranchT)])⟩)))))))))
  else
    some (.inr (⟨g175.t6,g175.c0⟩)))
noncomputable def spec_l15Add (a0 : (List BranchT)) (a1 : (List EventT)) : Option (List BranchT) :=
  ((loopF (spec_l15Add_L1 a0 a1) ⟨0⟩).bind fun y172 =>
  match y172 with
  | .inl p173 =>
    some a0
  | .inr p174 =>
    ((loopF (spec_l15Add_L2 a0 a1) ⟨false,0,[]⟩).bind fun y190 =>
    (if (!y190.t6) = true then
      ((spec_l15OwnEvents a1).bind fun c191 =>
      (guardO ((y190.c0.length + 1) * 24 ≤ 140737488355328) <|
      some (y190.c0 ++ [(⟨c191⟩ : BranchT)])))
    else
      some y190.c0)))
structure spec_l15Own_G1 where
  t9 : Int
  c1 : (List BranchT)
structure spec_l15Own_P1_0 where
  c1 : (List BranchT)
noncomputable def spec_l15Own_L1 (a0 : TellingsT) (g212 : spec_l15Own_G1) : Option (spec_l15Own_G1 ⊕ spec_l15Own_P1_0) :=
  (if (decide (g212.t9 < ((a0.Branches.length : Nat) : Int))) = true then
    (guardO (0 ≤ g212.t9 ∧ g212.t9 < (a0.Branches.length : Int)) <|
    ((spec_l15OwnEvents ((nth a0.Branches g212.t9.toNat).Events)).bind fun c214 =>
    (guardO ((g212.c1.length + 1) * 24 ≤ 140737488355328) <|
    some (.inl ⟨(wI (g212.t9 + 1)),(g212.c1 ++ [(⟨c214⟩ : BranchT)])⟩))))
  else
    some (.inr (⟨g212.c1⟩)))
noncomputable def spec_l15Own (a0 : TellingsT) : Option TellingsT :=
  ((loopF (spec_l15Own_L1 a0) ⟨0,[]⟩).bind fun y215 =>
  some (⟨y215.c1⟩ : TellingsT))
structure spec_AddBranch_J4001 where
  t14 : Bool
noncomputable def spec_AddBranch (a0 : TellingsT) (a1 : (List EventT)) : Option (TellingsT × Bool) :=
  ((((spec_GoodTellings a0).bind fun c154 =>
    (if (!c154) = true then
      some (⟨true⟩ : spec_AddBranch_J4001)
    else
      ((spec_l15History a1).bind fun c155 =>
      some (⟨(!c155)⟩ : spec_AddBranch_J4001)))) : Option spec_AddBranch_J4001).bind fun p156 =>
  (if p156.t14 = true then
    some ((⟨[]⟩ : TellingsT),false)
  else
    ((spec_l15Add a0.Branches a1).bind fun c211 =>
    ((spec_l15Own (⟨c211⟩ : TellingsT)).bind fun c216 =>
    ((spec_GoodTellings c216).bind fun c217 =>
    (if (!c217) = true then
      some ((⟨[]⟩ : TellingsT),false)
    else
      some (c216,true)))))))
end Go.TL
namespace Go.TL
noncomputable def impl_added_c1_r (a0 : BranchT) (a1 : (List EventT)) : Option Bool :=
  ((impl_begins a1 a0.Events).bind fun c340 =>
  some c340)
structure slices_IndexFunc_impl_Branch_impl_added_c1r_G1 where
  t8 : Int
structure slices_IndexFunc_impl_Branch_impl_added_c1r_P1_0 where
  t4 : Int
noncomputable def slices_IndexFunc_impl_Branch_impl_added_c1r_L1 (a0 : (List BranchT)) (a1 : (List EventT)) (g339 : slices_IndexFunc_impl_Branch_impl_added_c1r_G1) : Option (slices_IndexFunc_impl_Branch_impl_added_c1r_G1 ⊕ (slices_IndexFunc_impl_Branch_impl_added_c1r_P1_0 ⊕ Unit)) :=
  (if (decide (g339.t8 < ((a0.length : Nat) : Int))) = true then
    (guardO (0 ≤ g339.t8 ∧ g339.t8 < (a0.length : Int)) <|
    ((impl_added_c1_r (nth a0 g339.t8.toNat) a1).bind fun c342 =>
    (if c342 = true then
      some (.inr (.inl (⟨g339.t8⟩)))
    else
      some (.inl ⟨(wI (g339.t8 + 1))⟩))))
  else
    some (.inr (.inr ())))
noncomputable def slices_IndexFunc_impl_Branch_impl_added_c1r (a0 : (List BranchT)) (a1 : (List EventT)) : Option Int :=
  ((loopF (slices_IndexFunc_impl_Branch_impl_added_c1r_L1 a0 a1) ⟨0⟩).bind fun y343 =>
  match y343 with
  | .inl p344 =>
    some p344.t4
  | .inr p345 =>
    some (-1))
noncomputable def slices_ContainsFunc_impl_Branch_impl_added_c1r (a0 : (List BranchT)) (a1 : (List EventT)) : Option Bool :=
  ((slices_IndexFunc_impl_Branch_impl_added_c1r a0 a1).bind fun c346 =>
  some (decide (c346 ≥ 0)))
noncomputable def impl_added_c2_r (a0 : BranchT) (a1 : (List EventT)) : Option Bool :=
  ((impl_begins a0.Events a1).bind fun c348 =>
  some c348)
noncomputable def slices_DeleteFunc_impl_Branch_deep (a0 : (List BranchT)) (a1 : (List EventT)) : Option (List BranchT) :=
  guardO (a0.length ≤ 9223372036854775807 ∧ (a0.all fun b => (impl_added_c2_r b a1).isSome) = true) (some (a0.filter fun b => !((impl_added_c2_r b a1).getD false)))
noncomputable def impl_added_c3 (a0 : BranchT) (a1 : BranchT) : Option Int :=
  ((impl_branchOrder a0.Events a1.Events).bind fun c355 =>
  some c355)
noncomputable def slices_SortFunc_impl_Branch_deep (a0 : (List BranchT)) : Option (List BranchT) :=
  guardO (a0.length < 4611686018427387904 ∧ (a0.all fun b => decide (b.Events.length ≤ 1000)) = true ∧ aptO brL a0 = true) (some (sortO brL a0))
noncomputable def impl_added (a0 : TellingsT) (a1 : (List EventT)) : Option TellingsT :=
  ((impl_cloneTellings a0).bind fun c351 =>
  ((slices_ContainsFunc_impl_Branch_impl_added_c1r c351.Branches a1).bind fun c352 =>
  (if c352 = true then
    some c351
  else
    ((slices_DeleteFunc_impl_Branch_deep c351.Branches a1).bind fun c353 =>
    ((slices_Clone_impl_Event a1).bind fun c354 =>
    (guardO ((c353.length + 1) * 24 ≤ 140737488355328) <|
    ((slices_SortFunc_impl_Branch_deep (c353 ++ [(⟨c354⟩ : BranchT)])).bind fun c356 =>
    (guardO (c356.length = (c353.length + 1)) <|
    some (⟨c356⟩ : TellingsT)))))))))
structure impl_AddBranch_J4001 where
  t14 : Bool
noncomputable def impl_AddBranch (a0 : TellingsT) (a1 : (List EventT)) : Option (TellingsT × Bool) :=
  ((((impl_GoodTellings a0).bind fun c331 =>
    (if (!c331) = true then
      some (⟨true⟩ : impl_AddBranch_J4001)
    else
      ((impl_isTelling a1).bind fun c332 =>
      some (⟨(!c332)⟩ : impl_AddBranch_J4001)))) : Option impl_AddBranch_J4001).bind fun p333 =>
  (if p333.t14 = true then
    some ((⟨[]⟩ : TellingsT),false)
  else
    ((impl_added a0 a1).bind fun c357 =>
    (if (decide (((c357.Branches.length : Nat) : Int) > 12)) = true then
      some ((⟨[]⟩ : TellingsT),false)
    else
      some (c357,true)))))
structure laws_FnExactAddBranch_J4012 where
  t53 : Bool
structure laws_FnExactAddBranch_J4021 where
  t82 : Bool
structure laws_FnExactAddBranch_J4032 where
  t110 : Bool
noncomputable def laws_FnExactAddBranch (a0 : TellingsT) (a1 : (List EventT)) : Option Bool :=
  ((laws_szTellings a0 1048576).bind fun c15 =>
  (if (decide (c15 < 0)) = true then
    some true
  else
    ((laws_szEventS a1 c15).bind fun c16 =>
    (if (decide (c16 < 0)) = true then
      some true
    else
      ((laws_toTellings a0).bind fun c27 =>
      ((laws_toEventS a1).bind fun c28 =>
      ((spec_AddBranch c27 c28).bind fun c193 =>
      ((laws_toTellings a0).bind fun c194 =>
      ((laws_toEventS a1).bind fun c195 =>
      ((impl_AddBranch c194 c195).bind fun c358 =>
      ((((laws_eqTellings c358.1 c193.1).bind fun c373 =>
        (if (!c373) = true then
          some (⟨true⟩ : laws_FnExactAddBranch_J4012)
        else
          some (⟨(!(c358.2 == c193.2))⟩ : laws_FnExactAddBranch_J4012))) : Option laws_FnExactAddBranch_J4012).bind fun p374 =>
      (if p374.t53 = true then
        some false
      else
        ((laws_toTellings a0).bind fun c375 =>
        ((laws_eqTellings c194 c375).bind fun c376 =>
        (if (!c376) = true then
          some false
        else
          ((laws_toEventS a1).bind fun c377 =>
          ((laws_eqEventS c195 c377).bind fun c378 =>
          (if (!c378) = true then
            some false
          else
            ((laws_markTellings_wd c194 1).bind fun c393 =>
            (guardO (c393.2.length = c194.Branches.length) <|
            ((laws_markEventS_w c195 c393.1).bind fun c394 =>
            (guardO (c394.2.length = c195.length) <|
            (((if (decide (c394.1 < 0)) = true then
                some (⟨true⟩ : laws_FnExactAddBranch_J4021)
              else
                ((laws_eqTellings c358.1 c193.1).bind fun c395 =>
                (if (!c395) = true then
                  some (⟨true⟩ : laws_FnExactAddBranch_J4021)
                else
                  some (⟨(!(c358.2 == c193.2))⟩ : laws_FnExactAddBranch_J4021)))) : Option laws_FnExactAddBranch_J4021).bind fun p396 =>
            (if p396.t82 = true then
              some false
            else
              ((laws_markTellings_wd c358.1 1).bind fun c397 =>
              (guardO (c397.2.length = c358.1.Branches.length) <|
              ((laws_heldTellings (⟨c397.2⟩ : TellingsT) 1).bind fun c411 =>
              (if (decide (c411 < 0)) = true then
                some false
              else
                (if (c411 != c397.1) = true then
                  some false
                else
                  ((laws_toTellings a0).bind fun c412 =>
                  ((laws_toEventS a1).bind fun c413 =>
                  ((impl_AddBranch c412 c413).bind fun c414 =>
                  ((((laws_eqTellings c414.1 c193.1).bind fun c415 =>
                    (if (!c415) = true then
                      some (⟨true⟩ : laws_FnExactAddBranch_J4032)
                    else
                      some (⟨(!(c414.2 == c193.2))⟩ : laws_FnExactAddBranch_J4032))) : Option laws_FnExactAddBranch_J4032).bind fun p416 =>
                  (if p416.t110 = true then
                    some false
                  else
                    ((laws_heldTellings (⟨c397.2⟩ : TellingsT) 1).bind fun c417 =>
                    (if (decide (c417 < 0)) = true then
                      some false
                    else
                      (if (c417 != c397.1) = true then
                        some false
                      else
                        some true)))))))))))))))))))))))))))))))))))))
end Go.TL
namespace Go.TL
end Go.TL

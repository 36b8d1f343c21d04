import Derived.Test.YtjhcfmcdllfmpaaDoorG19PlR1
import Derived.Test.YtjhcfmcdllfmpaaDoorPlSort
set_option linter.unusedSimpArgs false
set_option linter.unusedVariables false
namespace Go.TL
structure spec_MergeDomains_J4001 where
  t17 : Bool
structure spec_MergeDomains_G1 where
  t7 : Int
  t8 : Int
  c0 : (List DomainT)
structure spec_MergeDomains_P1_0 where
  c0 : (List DomainT)
structure spec_MergeDomains_J24013 where
  t50 : Bool
structure spec_MergeDomains_J24016 where
  t83 : Bool
structure spec_MergeDomains_J22037 where
  b1_0 : ByteArray
  b1_1 : Int
  b1_2 : ByteArray
structure spec_MergeDomains_J34013 where
  t50 : Bool
structure spec_MergeDomains_J34016 where
  t83 : Bool
structure spec_MergeDomains_J32037 where
  b1_0 : ByteArray
  b1_1 : Int
  b1_2 : ByteArray
noncomputable def spec_MergeDomains_L1 (a0 : (List DomainT)) (a1 : (List DomainT)) (g35 : spec_MergeDomains_G1) : Option (spec_MergeDomains_G1 ⊕ spec_MergeDomains_P1_0) :=
  (if (decide (g35.t7 < ((a0.length : Nat) : Int))) = true then
    (((if (g35.t8 == ((a1.length : Nat) : Int)) = true then
        some (⟨true⟩ : spec_MergeDomains_J24013)
      else
        (if (decide (g35.t7 < ((a0.length : Nat) : Int))) = true then
          (guardO (0 ≤ g35.t7 ∧ g35.t7 < (a0.length : Int)) <|
          (guardO (0 ≤ g35.t8 ∧ g35.t8 < (a1.length : Int)) <|
          some (⟨(sLt ((nth a0 g35.t7.toNat).Name) ((nth a1 g35.t8.toNat).Name))⟩ : spec_MergeDomains_J24013)))
        else
          some (⟨false⟩ : spec_MergeDomains_J24013))) : Option spec_MergeDomains_J24013).bind fun p44 =>
    (if p44.t50 = true then
      (guardO (0 ≤ g35.t7 ∧ g35.t7 < (a0.length : Int)) <|
      (guardO ((g35.c0.length + 1) * 40 ≤ 140737488355328) <|
      some (.inl ⟨(wI (g35.t7 + 1)), g35.t8, (g35.c0 ++ ([(nth a0 g35.t7.toNat)]))⟩)))
    else
      (((if (g35.t7 == ((a0.length : Nat) : Int)) = true then
          some (⟨true⟩ : spec_MergeDomains_J24016)
        else
          (guardO (0 ≤ g35.t8 ∧ g35.t8 < (a1.length : Int)) <|
          (guardO (0 ≤ g35.t7 ∧ g35.t7 < (a0.length : Int)) <|
          some (⟨(sLt ((nth a1 g35.t8.toNat).Name) ((nth a0 g35.t7.toNat).Name))⟩ : spec_MergeDomains_J24016)))) : Option spec_MergeDomains_J24016).bind fun p45 =>
      (if p45.t83 = true then
        (guardO (0 ≤ g35.t8 ∧ g35.t8 < (a1.length : Int)) <|
        (guardO ((g35.c0.length + 1) * 40 ≤ 140737488355328) <|
        some (.inl ⟨g35.t7, (wI (g35.t8 + 1)), (g35.c0 ++ ([(nth a1 g35.t8.toNat)]))⟩)))
      else
        (guardO (0 ≤ g35.t7 ∧ g35.t7 < (a0.length : Int)) <|
        (((guardO (0 ≤ g35.t8 ∧ g35.t8 < (a1.length : Int)) <|
          ((spec_l13Less (nth a0 g35.t7.toNat) (nth a1 g35.t8.toNat)).bind fun c46 =>
          (if c46 = true then
            (guardO (0 ≤ g35.t8 ∧ g35.t8 < (a1.length : Int)) <|
            some (⟨(nth a1 g35.t8.toNat).Name, (nth a1 g35.t8.toNat).Version, (nth a1 g35.t8.toNat).Note⟩ : spec_MergeDomains_J22037))
          else
            some (⟨(nth a0 g35.t7.toNat).Name, (nth a0 g35.t7.toNat).Version, (nth a0 g35.t7.toNat).Note⟩ : spec_MergeDomains_J22037)))) : Option spec_MergeDomains_J22037).bind fun p47 =>
        (guardO ((g35.c0.length + 1) * 40 ≤ 140737488355328) <|
        some (.inl ⟨(wI (g35.t7 + 1)), (wI (g35.t8 + 1)), (g35.c0 ++ ([(⟨p47.b1_0, p47.b1_1, p47.b1_2⟩ : DomainT)]))⟩))))))))
  else
    (if (decide (g35.t8 < ((a1.length : Nat) : Int))) = true then
      (((if (g35.t8 == ((a1.length : Nat) : Int)) = true then
          some (⟨true⟩ : spec_MergeDomains_J34013)
        else
          (if (decide (g35.t7 < ((a0.length : Nat) : Int))) = true then
            (guardO (0 ≤ g35.t7 ∧ g35.t7 < (a0.length : Int)) <|
            (guardO (0 ≤ g35.t8 ∧ g35.t8 < (a1.length : Int)) <|
            some (⟨(sLt ((nth a0 g35.t7.toNat).Name) ((nth a1 g35.t8.toNat).Name))⟩ : spec_MergeDomains_J34013)))
          else
            some (⟨false⟩ : spec_MergeDomains_J34013))) : Option spec_MergeDomains_J34013).bind fun p48 =>
      (if p48.t50 = true then
        (guardO (0 ≤ g35.t7 ∧ g35.t7 < (a0.length : Int)) <|
        (guardO ((g35.c0.length + 1) * 40 ≤ 140737488355328) <|
        some (.inl ⟨(wI (g35.t7 + 1)), g35.t8, (g35.c0 ++ ([(nth a0 g35.t7.toNat)]))⟩)))
      else
        (((if (g35.t7 == ((a0.length : Nat) : Int)) = true then
            some (⟨true⟩ : spec_MergeDomains_J34016)
          else
            (guardO (0 ≤ g35.t8 ∧ g35.t8 < (a1.length : Int)) <|
            (guardO (0 ≤ g35.t7 ∧ g35.t7 < (a0.length : Int)) <|
            some (⟨(sLt ((nth a1 g35.t8.toNat).Name) ((nth a0 g35.t7.toNat).Name))⟩ : spec_MergeDomains_J34016)))) : Option spec_MergeDomains_J34016).bind fun p49 =>
        (if p49.t83 = true then
          (guardO (0 ≤ g35.t8 ∧ g35.t8 < (a1.length : Int)) <|
          (guardO ((g35.c0.length + 1) * 40 ≤ 140737488355328) <|
          some (.inl ⟨g35.t7, (wI (g35.t8 + 1)), (g35.c0 ++ ([(nth a1 g35.t8.toNat)]))⟩)))
        else
          (guardO (0 ≤ g35.t7 ∧ g35.t7 < (a0.length : Int)) <|
          (((guardO (0 ≤ g35.t8 ∧ g35.t8 < (a1.length : Int)) <|
            ((spec_l13Less (nth a0 g35.t7.toNat) (nth a1 g35.t8.toNat)).bind fun c50 =>
            (if c50 = true then
              (guardO (0 ≤ g35.t8 ∧ g35.t8 < (a1.length : Int)) <|
              some (⟨(nth a1 g35.t8.toNat).Name, (nth a1 g35.t8.toNat).Version, (nth a1 g35.t8.toNat).Note⟩ : spec_MergeDomains_J32037))
            else
              some (⟨(nth a0 g35.t7.toNat).Name, (nth a0 g35.t7.toNat).Version, (nth a0 g35.t7.toNat).Note⟩ : spec_MergeDomains_J32037)))) : Option spec_MergeDomains_J32037).bind fun p51 =>
          (guardO ((g35.c0.length + 1) * 40 ≤ 140737488355328) <|
          some (.inl ⟨(wI (g35.t7 + 1)), (wI (g35.t8 + 1)), (g35.c0 ++ ([(⟨p51.b1_0, p51.b1_1, p51.b1_2⟩ : DomainT)]))⟩))))))))
    else
      some (.inr (⟨g35.c0⟩))))
noncomputable def spec_MergeDomains (a0 : (List DomainT)) (a1 : (List DomainT)) : Option ((List DomainT) × Bool) :=
  ((((spec_GoodDomains a0).bind fun c32 =>
    (if (!c32) = true then
      some (⟨true⟩ : spec_MergeDomains_J4001)
    else
      ((spec_GoodDomains a1).bind fun c33 =>
      some (⟨(!c33)⟩ : spec_MergeDomains_J4001)))) : Option spec_MergeDomains_J4001).bind fun p34 =>
  (if p34.t17 = true then
    some ([], false)
  else
    ((loopF (spec_MergeDomains_L1 a0 a1) ⟨0, 0, []⟩).bind fun y52 =>
    (if (decide (((y52.c0.length : Nat) : Int) > 12)) = true then
      some ([], false)
    else
      some (y52.c0, true)))))
noncomputable def slices_SortFunc_impl_Domain_by_name (a0 : (List DomainT)) : Option (List DomainT) :=
  guardO (a0.length < 4611686018427387904 ∧ aptO (fun x y : DomainT => sLt x.Name y.Name) a0 = true) (some (sortO (fun x y : DomainT => sLt x.Name y.Name) a0))
structure impl_MergeDomains_J4001 where
  t17 : Bool
structure impl_MergeDomains_G1 where
  t22 : Int
  c0 : (List DomainT)
structure impl_MergeDomains_P1_0 where
  c0 : (List DomainT)
noncomputable def impl_MergeDomains_L1 (a1 : (List DomainT)) (g72 : impl_MergeDomains_G1) : Option (impl_MergeDomains_G1 ⊕ impl_MergeDomains_P1_0) :=
  (if (decide (g72.t22 < ((a1.length : Nat) : Int))) = true then
    (guardO (0 ≤ g72.t22 ∧ g72.t22 < (a1.length : Int)) <|
    ((impl_domainAt g72.c0 ((nth a1 g72.t22.toNat).Name)).bind fun c93 =>
    (if (decide (c93 < 0)) = true then
      (guardO ((g72.c0.length + 1) * 40 ≤ 140737488355328) <|
      some (.inl ⟨(wI (g72.t22 + 1)), (g72.c0 ++ ([(nth a1 g72.t22.toNat)]))⟩))
    else
      (guardO (0 ≤ c93 ∧ c93 < ((g72.c0.length : Nat) : Int)) <|
      ((impl_greater (nth a1 g72.t22.toNat) (nth g72.c0 c93.toNat)).bind fun c94 =>
      (if (decide (c94 > 0)) = true then
        (guardO (0 ≤ c93 ∧ c93 < ((g72.c0.length : Nat) : Int)) <|
        some (.inl ⟨(wI (g72.t22 + 1)), (g72.c0.set c93.toNat (nth a1 g72.t22.toNat))⟩))
      else
        some (.inl ⟨(wI (g72.t22 + 1)), g72.c0⟩)))))))
  else
    some (.inr (⟨g72.c0⟩)))
noncomputable def impl_MergeDomains (a0 : (List DomainT)) (a1 : (List DomainT)) : Option ((List DomainT) × Bool) :=
  ((((impl_GoodDomains a0).bind fun c68 =>
    (if (!c68) = true then
      some (⟨true⟩ : impl_MergeDomains_J4001)
    else
      ((impl_GoodDomains a1).bind fun c69 =>
      some (⟨(!c69)⟩ : impl_MergeDomains_J4001)))) : Option impl_MergeDomains_J4001).bind fun p70 =>
  (if p70.t17 = true then
    some ([], false)
  else
    ((slices_Clone_impl_Domain a0).bind fun c71 =>
    ((loopF (impl_MergeDomains_L1 a1) ⟨0, c71⟩).bind fun y95 =>
    ((slices_SortFunc_impl_Domain_by_name y95.c0).bind fun c96 =>
    (guardO (c96.length = y95.c0.length) <|
    ((impl_GoodDomains c96).bind fun c97 =>
    (if (!c97) = true then
      some ([], false)
    else
      some (c96, true)))))))))
structure laws_FnExactMergeDomains_J4012 where
  t53 : Bool
structure laws_FnExactMergeDomains_J4021 where
  t82 : Bool
structure laws_FnExactMergeDomains_J4032 where
  t110 : Bool
noncomputable def laws_FnExactMergeDomains (a0 : (List DomainT)) (a1 : (List DomainT)) : Option Bool :=
  ((laws_szDomainS a0 1048576).bind fun c7 =>
  (if (decide (c7 < 0)) = true then
    some true
  else
    ((laws_szDomainS a1 c7).bind fun c8 =>
    (if (decide (c8 < 0)) = true then
      some true
    else
      ((laws_toDomainS a0).bind fun c13 =>
      ((laws_toDomainS a1).bind fun c14 =>
      ((spec_MergeDomains c13 c14).bind fun c53 =>
      ((laws_toDomainS a0).bind fun c54 =>
      ((laws_toDomainS a1).bind fun c55 =>
      ((impl_MergeDomains c54 c55).bind fun c100 =>
      ((((laws_eqDomainS c100.1 c53.1).bind fun c107 =>
        (if (!c107) = true then
          some (⟨true⟩ : laws_FnExactMergeDomains_J4012)
        else
          some (⟨(!(c100.2 == c53.2))⟩ : laws_FnExactMergeDomains_J4012))) : Option laws_FnExactMergeDomains_J4012).bind fun p108 =>
      (if p108.t53 = true then
        some false
      else
        ((laws_toDomainS a0).bind fun c109 =>
        ((laws_eqDomainS c54 c109).bind fun c110 =>
        (if (!c110) = true then
          some false
        else
          ((laws_toDomainS a1).bind fun c111 =>
          ((laws_eqDomainS c55 c111).bind fun c112 =>
          (if (!c112) = true then
            some false
          else
            ((laws_markDomainS_w c54 1).bind fun c123 =>
            (guardO (c123.2.length = c54.length) <|
            ((laws_markDomainS_w c55 c123.1).bind fun c124 =>
            (guardO (c124.2.length = c55.length) <|
            (((if (decide (c124.1 < 0)) = true then
                some (⟨true⟩ : laws_FnExactMergeDomains_J4021)
              else
                ((laws_eqDomainS c100.1 c53.1).bind fun c125 =>
                (if (!c125) = true then
                  some (⟨true⟩ : laws_FnExactMergeDomains_J4021)
                else
                  some (⟨(!(c100.2 == c53.2))⟩ : laws_FnExactMergeDomains_J4021)))) : Option laws_FnExactMergeDomains_J4021).bind fun p126 =>
            (if p126.t82 = true then
              some false
            else
              ((laws_markDomainS_w c100.1 1).bind fun c127 =>
              (guardO (c127.2.length = c100.1.length) <|
              ((laws_heldDomainS c127.2 1).bind fun c136 =>
              (if (decide (c136 < 0)) = true then
                some false
              else
                (if (c136 != c127.1) = true then
                  some false
                else
                  ((laws_toDomainS a0).bind fun c137 =>
                  ((laws_toDomainS a1).bind fun c138 =>
                  ((impl_MergeDomains c137 c138).bind fun c139 =>
                  ((((laws_eqDomainS c139.1 c53.1).bind fun c140 =>
                    (if (!c140) = true then
                      some (⟨true⟩ : laws_FnExactMergeDomains_J4032)
                    else
                      some (⟨(!(c139.2 == c53.2))⟩ : laws_FnExactMergeDomains_J4032))) : Option laws_FnExactMergeDomains_J4032).bind fun p141 =>
                  (if p141.t110 = true then
                    some false
                  else
                    ((laws_heldDomainS c127.2 1).bind fun c142 =>
                    (if (decide (c142 < 0)) = true then
                      some false
                    else
                      (if (c142 != c127.1) = true then
                        some false
                      else
                        some true)))))))))))))))))))))))))))))))))))))
end Go.TL
namespace Go.TL
structure RegionT where
  Id : Int
  Version : Int
  Tellings : TellingsT
  deriving DecidableEq, Inhabited
noncomputable def laws_szRegion (a0 : RegionT) (a1 : Int) : Option Int :=
  ((laws_szTellings a0.Tellings a1).bind fun c15 =>
  (if (decide (c15 < 0)) = true then
    some (-1)
  else
    some c15))
noncomputable def laws_toRegion (a0 : RegionT) : Option RegionT :=
  ((laws_toTellings a0.Tellings).bind fun c30 =>
  some (⟨a0.Id, a0.Version, c30⟩ : RegionT))
structure spec_GoodRegion_J4001 where
  t22 : Bool
structure spec_GoodRegion_G1 where
  t27 : Int
structure spec_GoodRegion_G2 where
  t34 : Int
noncomputable def spec_GoodRegion_L2 (a0 : RegionT) (g137 : spec_GoodRegion_G1) (g142 : spec_GoodRegion_G2) : Option (spec_GoodRegion_G2 ⊕ (Unit ⊕ Unit)) :=
  (if (decide (g142.t34 < ((((nth a0.Tellings.Branches g137.t27.toNat).Events).length : Nat) : Int))) = true then
    (guardO (0 ≤ g142.t34 ∧ g142.t34 < (((nth a0.Tellings.Branches g137.t27.toNat).Events).length : Int)) <|
    (if (decide (((nth ((nth a0.Tellings.Branches g137.t27.toNat).Events) g142.t34.toNat).Version) > a0.Version)) = true then
      some (.inr (.inl ()))
    else
      some (.inl ⟨(wI (g142.t34 + 1))⟩)))
  else
    some (.inr (.inr ())))
noncomputable def spec_GoodRegion_L1 (a0 : RegionT) (g137 : spec_GoodRegion_G1) : Option (spec_GoodRegion_G1 ⊕ (Unit ⊕ Unit)) :=
  (if (decide (g137.t27 < ((a0.Tellings.Branches.length : Nat) : Int))) = true then
    (guardO (0 ≤ g137.t27 ∧ g137.t27 < (a0.Tellings.Branches.length : Int)) <|
    ((loopF (spec_GoodRegion_L2 a0 g137) ⟨0⟩).bind fun y143 =>
    match y143 with
    | .inl p144 =>
      some (.inr (.inl ()))
    | .inr p145 =>
      some (.inl ⟨(wI (g137.t27 + 1))⟩)))
  else
    some (.inr (.inr ())))
noncomputable def spec_GoodRegion (a0 : RegionT) : Option Bool :=
  ((((spec_l1In a0.Id 0 9).bind fun c32 =>
    (if (!c32) = true then
      some (⟨true⟩ : spec_GoodRegion_J4001)
    else
      ((spec_l13Version a0.Version).bind fun c34 =>
      (if (!c34) = true then
        some (⟨true⟩ : spec_GoodRegion_J4001)
      else
        ((spec_GoodTellings a0.Tellings).bind fun c135 =>
        some (⟨(!c135)⟩ : spec_GoodRegion_J4001)))))) : Option spec_GoodRegion_J4001).bind fun p136 =>
  (if p136.t22 = true then
    some false
  else
    ((loopF (spec_GoodRegion_L1 a0) ⟨0⟩).bind fun y146 =>
    match y146 with
    | .inl p147 =>
      some false
    | .inr p148 =>
      some true)))
noncomputable def impl_wordOk_c1_c1_r (a0 : EventT) (a1 : Int) : Option Bool :=
  some (decide (a0.Version > a1))
structure slices_IndexFunc_impl_Event_impl_wordOk_c1_c1r_G1 where
  t8 : Int
structure slices_IndexFunc_impl_Event_impl_wordOk_c1_c1r_P1_0 where
  t4 : Int
noncomputable def slices_IndexFunc_impl_Event_impl_wordOk_c1_c1r_L1 (a0 : (List EventT)) (a1 : Int) (g297 : slices_IndexFunc_impl_Event_impl_wordOk_c1_c1r_G1) : Option (slices_IndexFunc_impl_Event_impl_wordOk_c1_c1r_G1 ⊕ (slices_IndexFunc_impl_Event_impl_wordOk_c1_c1r_P1_0 ⊕ Unit)) :=
  (if (decide (g297.t8 < ((a0.length : Nat) : Int))) = true then
    (guardO (0 ≤ g297.t8 ∧ g297.t8 < (a0.length : Int)) <|
    ((impl_wordOk_c1_c1_r (nth a0 g297.t8.toNat) a1).bind fun c299 =>
    (if c299 = true then
      some (.inr (.inl (⟨g297.t8⟩)))
    else
      some (.inl ⟨(wI (g297.t8 + 1))⟩))))
  else
    some (.inr (.inr ())))
noncomputable def slices_IndexFunc_impl_Event_impl_wordOk_c1_c1r (a0 : (List EventT)) (a1 : Int) : Option Int :=
  ((loopF (slices_IndexFunc_impl_Event_impl_wordOk_c1_c1r_L1 a0 a1) ⟨0⟩).bind fun y300 =>
  match y300 with
  | .inl p301 =>
    some p301.t4
  | .inr p302 =>
    some (-1))
noncomputable def slices_ContainsFunc_impl_Event_impl_wordOk_c1_c1r (a0 : (List EventT)) (a1 : Int) : Option Bool :=
  ((slices_IndexFunc_impl_Event_impl_wordOk_c1_c1r a0 a1).bind fun c303 =>
  some (decide (c303 ≥ 0)))
noncomputable def impl_wordOk_c1_r (a0 : BranchT) (a1 : Int) : Option Bool :=
  ((slices_ContainsFunc_impl_Event_impl_wordOk_c1_c1r a0.Events a1).bind fun c304 =>
  some c304)
structure slices_IndexFunc_impl_Branch_impl_wordOk_c1r_G1 where
  t8 : Int
structure slices_IndexFunc_impl_Branch_impl_wordOk_c1r_P1_0 where
  t4 : Int
noncomputable def slices_IndexFunc_impl_Branch_impl_wordOk_c1r_L1 (a0 : (List BranchT)) (a1 : Int) (g296 : slices_IndexFunc_impl_Branch_impl_wordOk_c1r_G1) : Option (slices_IndexFunc_impl_Branch_impl_wordOk_c1r_G1 ⊕ (slices_IndexFunc_impl_Branch_impl_wordOk_c1r_P1_0 ⊕ Unit)) :=
  (if (decide (g296.t8 < ((a0.length : Nat) : Int))) = true then
    (guardO (0 ≤ g296.t8 ∧ g296.t8 < (a0.length : Int)) <|
    ((impl_wordOk_c1_r (nth a0 g296.t8.toNat) a1).bind fun c306 =>
    (if c306 = true then
      some (.inr (.inl (⟨g296.t8⟩)))
    else
      some (.inl ⟨(wI (g296.t8 + 1))⟩))))
  else
    some (.inr (.inr ())))
noncomputable def slices_IndexFunc_impl_Branch_impl_wordOk_c1r (a0 : (List BranchT)) (a1 : Int) : Option Int :=
  ((loopF (slices_IndexFunc_impl_Branch_impl_wordOk_c1r_L1 a0 a1) ⟨0⟩).bind fun y307 =>
  match y307 with
  | .inl p308 =>
    some p308.t4
  | .inr p309 =>
    some (-1))
noncomputable def slices_ContainsFunc_impl_Branch_impl_wordOk_c1r (a0 : (List BranchT)) (a1 : Int) : Option Bool :=
  ((slices_IndexFunc_impl_Branch_impl_wordOk_c1r a0 a1).bind fun c310 =>
  some (decide (c310 ≥ 0)))
structure impl_wordOk_J4001 where
  t12 : Bool
noncomputable def impl_wordOk (a0 : Int) (a1 : TellingsT) : Option Bool :=
  ((((impl_isVersion a0).bind fun c154 =>
    (if (!c154) = true then
      some (⟨true⟩ : impl_wordOk_J4001)
    else
      ((impl_GoodTellings a1).bind fun c294 =>
      some (⟨(!c294)⟩ : impl_wordOk_J4001)))) : Option impl_wordOk_J4001).bind fun p295 =>
  (if p295.t12 = true then
    some false
  else
    ((slices_ContainsFunc_impl_Branch_impl_wordOk_c1r a1.Branches a0).bind fun c311 =>
    some (!c311))))
noncomputable def impl_GoodRegion (a0 : RegionT) : Option Bool :=
  ((impl_isRegion a0.Id).bind fun c152 =>
  (if c152 = true then
    ((impl_wordOk a0.Version a0.Tellings).bind fun c312 =>
    some c312)
  else
    some false))
noncomputable def laws_eqRegion (a0 : RegionT) (a1 : RegionT) : Option Bool :=
  (if (a0.Id != a1.Id) = true then
    some false
  else
    (if (a0.Version != a1.Version) = true then
      some false
    else
      ((laws_eqTellings a0.Tellings a1.Tellings).bind fun c329 =>
      (if (!c329) = true then
        some false
      else
        some true))))
noncomputable def laws_FnExactGoodRegion (a0 : RegionT) : Option Bool :=
  ((laws_szRegion a0 1048576).bind fun c16 =>
  (if (decide (c16 < 0)) = true then
    some true
  else
    ((laws_toRegion a0).bind fun c31 =>
    ((spec_GoodRegion c31).bind fun c149 =>
    ((laws_toRegion a0).bind fun c150 =>
    ((impl_GoodRegion c150).bind fun c313 =>
    (if (!(c313 == c149)) = true then
      some false
    else
      ((laws_toRegion a0).bind fun c314 =>
      ((laws_eqRegion c150 c314).bind fun c330 =>
      (if (!c330) = true then
        some false
      else
        some true))))))))))
noncomputable def spec_l16Active (a0 : RegionT) : Option Bool :=
  some ((a0.Version.tmod 10) == a0.Id)
noncomputable def spec_IsActive (a0 : RegionT) : Option (Bool × Bool) :=
  ((spec_GoodRegion a0).bind fun c333 =>
  (if (!c333) = true then
    some (false, false)
  else
    ((spec_l16Active a0).bind fun c334 =>
    some (c334, true))))
noncomputable def impl_Region_active_r (a0 : RegionT) : Option Bool :=
  some ((a0.Version.tmod 10) == a0.Id)
noncomputable def impl_IsActive (a0 : RegionT) : Option (Bool × Bool) :=
  ((impl_GoodRegion a0).bind fun c337 =>
  (if (!c337) = true then
    some (false, false)
  else
    ((impl_Region_active_r a0).bind fun c338 =>
    some (c338, true))))
structure laws_FnExactIsActive_J4008 where
  t34 : Bool
noncomputable def laws_FnExactIsActive (a0 : RegionT) : Option Bool :=
  ((laws_szRegion a0 1048576).bind fun c331 =>
  (if (decide (c331 < 0)) = true then
    some true
  else
    ((laws_toRegion a0).bind fun c332 =>
    ((spec_IsActive c332).bind fun c335 =>
    ((laws_toRegion a0).bind fun c336 =>
    ((impl_IsActive c336).bind fun c339 =>
    (((if (!(c339.1 == c335.1)) = true then
        some (⟨true⟩ : laws_FnExactIsActive_J4008)
      else
        some (⟨(!(c339.2 == c335.2))⟩ : laws_FnExactIsActive_J4008)) : Option laws_FnExactIsActive_J4008).bind fun p340 =>
    (if p340.t34 = true then
      some false
    else
      ((laws_toRegion a0).bind fun c341 =>
      ((laws_eqRegion c336 c341).bind fun c342 =>
      (if (!c342) = true then
        some false
      else
        some true)))))))))))
structure WordT where
  Version : Int
  Tellings : TellingsT
  deriving DecidableEq, Inhabited
structure SaidT where
  To : Int
  Word : WordT
  deriving DecidableEq, Inhabited
structure WorldT where
  Regions : (List RegionT)
  Line : (List SaidT)
  deriving DecidableEq, Inhabited
structure laws_szRegionS_G1 where
  t1 : Int
  t5 : Int
structure laws_szRegionS_P1_1 where
  t1 : Int
noncomputable def laws_szRegionS_L1 (a0 : (List RegionT)) (g343 : laws_szRegionS_G1) : Option (laws_szRegionS_G1 ⊕ (Unit ⊕ laws_szRegionS_P1_1)) :=
  (if (decide (g343.t5 < ((a0.length : Nat) : Int))) = true then
    (guardO (0 ≤ g343.t5 ∧ g343.t5 < (a0.length : Int)) <|
    ((laws_szRegion (⟨(nth a0 g343.t5.toNat).Id, (nth a0 g343.t5.toNat).Version, ((nth a0 g343.t5.toNat).Tellings)⟩ : RegionT) g343.t1).bind fun c345 =>
    (if (decide (c345 < 0)) = true then
      some (.inr (.inl ()))
    else
      some (.inl ⟨c345, (wI (g343.t5 + 1))⟩))))
  else
    some (.inr (.inr (⟨g343.t1⟩))))
noncomputable def laws_szRegionS (a0 : (List RegionT)) (a1 : Int) : Option Int :=
  (if (decide ((wI (a1 - ((a0.length : Nat) : Int))) < 0)) = true then
    some (-1)
  else
    ((loopF (laws_szRegionS_L1 a0) ⟨(wI (a1 - ((a0.length : Nat) : Int))), 0⟩).bind fun y346 =>
    match y346 with
    | .inl p347 =>
      some (-1)
    | .inr p348 =>
      some p348.t1))
noncomputable def laws_szWord (a0 : WordT) (a1 : Int) : Option Int :=
  ((laws_szTellings a0.Tellings a1).bind fun c351 =>
  (if (decide (c351 < 0)) = true then
    some (-1)
  else
    some c351))
noncomputable def laws_szSaid (a0 : SaidT) (a1 : Int) : Option Int :=
  ((laws_szWord a0.Word a1).bind fun c352 =>
  (if (decide (c352 < 0)) = true then
    some (-1)
  else
    some c352))
structure laws_szSaidS_G1 where
  t1 : Int
  t5 : Int
structure laws_szSaidS_P1_1 where
  t1 : Int
noncomputable def laws_szSaidS_L1 (a0 : (List SaidT)) (g350 : laws_szSaidS_G1) : Option (laws_szSaidS_G1 ⊕ (Unit ⊕ laws_szSaidS_P1_1)) :=
  (if (decide (g350.t5 < ((a0.length : Nat) : Int))) = true then
    (guardO (0 ≤ g350.t5 ∧ g350.t5 < (a0.length : Int)) <|
    ((laws_szSaid (⟨(nth a0 g350.t5.toNat).To, (⟨((nth a0 g350.t5.toNat).Word).Version, (((nth a0 g350.t5.toNat).Word).Tellings)⟩ : WordT)⟩ : SaidT) g350.t1).bind fun c354 =>
    (if (decide (c354 < 0)) = true then
      some (.inr (.inl ()))
    else
      some (.inl ⟨c354, (wI (g350.t5 + 1))⟩))))
  else
    some (.inr (.inr (⟨g350.t1⟩))))
noncomputable def laws_szSaidS (a0 : (List SaidT)) (a1 : Int) : Option Int :=
  (if (decide ((wI (a1 - ((a0.length : Nat) : Int))) < 0)) = true then
    some (-1)
  else
    ((loopF (laws_szSaidS_L1 a0) ⟨(wI (a1 - ((a0.length : Nat) : Int))), 0⟩).bind fun y355 =>
    match y355 with
    | .inl p356 =>
      some (-1)
    | .inr p357 =>
      some p357.t1))
noncomputable def laws_szWorld (a0 : WorldT) (a1 : Int) : Option Int :=
  ((laws_szRegionS a0.Regions a1).bind fun c349 =>
  (if (decide (c349 < 0)) = true then
    some (-1)
  else
    ((laws_szSaidS a0.Line c349).bind fun c358 =>
    (if (decide (c358 < 0)) = true then
      some (-1)
    else
      some c358))))
noncomputable def laws_toRegion_F (a0 : RegionT) : Option RegionT :=
  ((laws_toTellings a0.Tellings).bind fun c363 =>
  some (⟨a0.Id, a0.Version, c363⟩ : RegionT))
structure laws_toRegionS_G1 where
  t4 : Int
  c0 : (List RegionT)
structure laws_toRegionS_P1_0 where
  c0 : (List RegionT)
noncomputable def laws_toRegionS_L1 (a0 : (List RegionT)) (g362 : laws_toRegionS_G1) : Option (laws_toRegionS_G1 ⊕ laws_toRegionS_P1_0) :=
  (if (decide (g362.t4 < ((a0.length : Nat) : Int))) = true then
    (guardO (0 ≤ g362.t4 ∧ g362.t4 < (a0.length : Int)) <|
    ((laws_toRegion_F (⟨(nth a0 g362.t4.toNat).Id, (nth a0 g362.t4.toNat).Version, ((nth a0 g362.t4.toNat).Tellings)⟩ : RegionT)).bind fun c365 =>
    (guardO (0 ≤ g362.t4 ∧ g362.t4 < ((g362.c0.length : Nat) : Int)) <|
    some (.inl ⟨(wI (g362.t4 + 1)), (g362.c0.set g362.t4.toNat c365)⟩))))
  else
    some (.inr (⟨g362.c0⟩)))
noncomputable def laws_toRegionS (a0 : (List RegionT)) : Option (List RegionT) :=
  (guardO (0 ≤ ((a0.length : Nat) : Int) ∧ ((a0.length : Nat) : Int) * 40 ≤ 281474976710656 ∧ ((a0.length : Nat) : Int) ≤ 9223372036854775807) <|
  ((loopF (laws_toRegionS_L1 a0) ⟨0, (List.replicate a0.length (⟨0, 0, (⟨[]⟩ : TellingsT)⟩ : RegionT))⟩).bind fun y366 =>
  some y366.c0))
noncomputable def laws_toWord (a0 : WordT) : Option WordT :=
  ((laws_toTellings a0.Tellings).bind fun c369 =>
  some (⟨a0.Version, c369⟩ : WordT))
noncomputable def laws_toSaid_F (a0 : SaidT) : Option SaidT :=
  ((laws_toWord a0.Word).bind fun c373 =>
  some (⟨a0.To, c373⟩ : SaidT))
structure laws_toSaidS_G1 where
  t4 : Int
  c0 : (List SaidT)
structure laws_toSaidS_P1_0 where
  c0 : (List SaidT)
noncomputable def laws_toSaidS_L1 (a0 : (List SaidT)) (g372 : laws_toSaidS_G1) : Option (laws_toSaidS_G1 ⊕ laws_toSaidS_P1_0) :=
  (if (decide (g372.t4 < ((a0.length : Nat) : Int))) = true then
    (guardO (0 ≤ g372.t4 ∧ g372.t4 < (a0.length : Int)) <|
    ((laws_toSaid_F (⟨(nth a0 g372.t4.toNat).To, (⟨((nth a0 g372.t4.toNat).Word).Version, (((nth a0 g372.t4.toNat).Word).Tellings)⟩ : WordT)⟩ : SaidT)).bind fun c375 =>
    (guardO (0 ≤ g372.t4 ∧ g372.t4 < ((g372.c0.length : Nat) : Int)) <|
    some (.inl ⟨(wI (g372.t4 + 1)), (g372.c0.set g372.t4.toNat c375)⟩))))
  else
    some (.inr (⟨g372.c0⟩)))
noncomputable def laws_toSaidS (a0 : (List SaidT)) : Option (List SaidT) :=
  (guardO (0 ≤ ((a0.length : Nat) : Int) ∧ ((a0.length : Nat) : Int) * 40 ≤ 281474976710656 ∧ ((a0.length : Nat) : Int) ≤ 9223372036854775807) <|
  ((loopF (laws_toSaidS_L1 a0) ⟨0, (List.replicate a0.length (⟨0, (⟨0, (⟨[]⟩ : TellingsT)⟩ : WordT)⟩ : SaidT))⟩).bind fun y376 =>
  some y376.c0))
noncomputable def laws_toWorld (a0 : WorldT) : Option WorldT :=
  ((laws_toRegionS a0.Regions).bind fun c367 =>
  ((laws_toSaidS a0.Line).bind fun c377 =>
  some (⟨c367, c377⟩ : WorldT)))
structure spec_GoodWorld_J4001 where
  t16 : Bool
structure spec_GoodWorld_G1 where
  t20 : Int
structure spec_GoodWorld_J14006 where
  t33 : Bool
noncomputable def spec_GoodWorld_L1 (a0 : WorldT) (g380 : spec_GoodWorld_G1) : Option (spec_GoodWorld_G1 ⊕ (Unit ⊕ Unit)) :=
  (if (decide (g380.t20 < ((a0.Regions.length : Nat) : Int))) = true then
    (guardO (0 ≤ g380.t20 ∧ g380.t20 < (a0.Regions.length : Int)) <|
    ((((spec_GoodRegion (⟨(nth a0.Regions g380.t20.toNat).Id, (nth a0.Regions g380.t20.toNat).Version, ((nth a0.Regions g380.t20.toNat).Tellings)⟩ : RegionT)).bind fun c383 =>
      (if (!c383) = true then
        some (⟨true⟩ : spec_GoodWorld_J14006)
      else
        some (⟨(((nth a0.Regions g380.t20.toNat).Id) != g380.t20)⟩ : spec_GoodWorld_J14006))) : Option spec_GoodWorld_J14006).bind fun p384 =>
    (if p384.t33 = true then
      some (.inr (.inl ()))
    else
      some (.inl ⟨(wI (g380.t20 + 1))⟩))))
  else
    some (.inr (.inr ())))
structure spec_GoodWorld_G2 where
  t38 : Int
structure spec_GoodWorld_J14012 where
  t56 : Bool
noncomputable def spec_GoodWorld_L2 (a0 : WorldT) (g388 : spec_GoodWorld_G2) : Option (spec_GoodWorld_G2 ⊕ (Unit ⊕ Unit)) :=
  (if (decide (g388.t38 < ((a0.Line.length : Nat) : Int))) = true then
    (guardO (0 ≤ g388.t38 ∧ g388.t38 < (a0.Line.length : Int)) <|
    ((((spec_l1In ((nth a0.Line g388.t38.toNat).To) 0 1).bind fun c392 =>
      (if (!c392) = true then
        some (⟨true⟩ : spec_GoodWorld_J14012)
      else
        ((spec_GoodRegion (⟨0, ((nth a0.Line g388.t38.toNat).Word).Version, (((nth a0.Line g388.t38.toNat).Word).Tellings)⟩ : RegionT)).bind fun c393 =>
        some (⟨(!c393)⟩ : spec_GoodWorld_J14012)))) : Option spec_GoodWorld_J14012).bind fun p394 =>
    (if p394.t56 = true then
      some (.inr (.inl ()))
    else
      some (.inl ⟨(wI (g388.t38 + 1))⟩))))
  else
    some (.inr (.inr ())))
noncomputable def spec_GoodWorld (a0 : WorldT) : Option Bool :=
  (((if (((a0.Regions.length : Nat) : Int) != 2) = true then
      some (⟨true⟩ : spec_GoodWorld_J4001)
    else
      some (⟨(decide (((a0.Line.length : Nat) : Int) > 20))⟩ : spec_GoodWorld_J4001)) : Option spec_GoodWorld_J4001).bind fun p379 =>
  (if p379.t16 = true then
    some false
  else
    ((loopF (spec_GoodWorld_L1 a0) ⟨0⟩).bind fun y385 =>
    match y385 with
    | .inl p386 =>
      some false
    | .inr p387 =>
      ((loopF (spec_GoodWorld_L2 a0) ⟨0⟩).bind fun y395 =>
      match y395 with
      | .inl p396 =>
        some false
      | .inr p397 =>
        some true))))
noncomputable def impl_isPlace (a0 : Int) : Option Bool :=
  ((impl_in a0 0 1).bind fun c420 =>
  some c420)
noncomputable def impl_GoodWorld_c1 (a0 : SaidT) : Option Bool :=
  ((impl_isPlace a0.To).bind fun c421 =>
  (if (!c421) = true then
    some true
  else
    ((impl_wordOk a0.Word.Version a0.Word.Tellings).bind fun c422 =>
    some (!c422))))
structure slices_IndexFunc_impl_Said_impl_GoodWorld_c1_G1 where
  t8 : Int
structure slices_IndexFunc_impl_Said_impl_GoodWorld_c1_P1_0 where
  t4 : Int
noncomputable def slices_IndexFunc_impl_Said_impl_GoodWorld_c1_L1 (a0 : (List SaidT)) (g419 : slices_IndexFunc_impl_Said_impl_GoodWorld_c1_G1) : Option (slices_IndexFunc_impl_Said_impl_GoodWorld_c1_G1 ⊕ (slices_IndexFunc_impl_Said_impl_GoodWorld_c1_P1_0 ⊕ Unit)) :=
  (if (decide (g419.t8 < ((a0.length : Nat) : Int))) = true then
    (guardO (0 ≤ g419.t8 ∧ g419.t8 < (a0.length : Int)) <|
    ((impl_GoodWorld_c1 (⟨(nth a0 g419.t8.toNat).To, (⟨((nth a0 g419.t8.toNat).Word).Version, (((nth a0 g419.t8.toNat).Word).Tellings)⟩ : WordT)⟩ : SaidT)).bind fun c424 =>
    (if c424 = true then
      some (.inr (.inl (⟨g419.t8⟩)))
    else
      some (.inl ⟨(wI (g419.t8 + 1))⟩))))
  else
    some (.inr (.inr ())))
noncomputable def slices_IndexFunc_impl_Said_impl_GoodWorld_c1 (a0 : (List SaidT)) : Option Int :=
  ((loopF (slices_IndexFunc_impl_Said_impl_GoodWorld_c1_L1 a0) ⟨0⟩).bind fun y425 =>
  match y425 with
  | .inl p426 =>
    some p426.t4
  | .inr p427 =>
    some (-1))
noncomputable def slices_ContainsFunc_impl_Said_impl_GoodWorld_c1 (a0 : (List SaidT)) : Option Bool :=
  ((slices_IndexFunc_impl_Said_impl_GoodWorld_c1 a0).bind fun c428 =>
  some (decide (c428 ≥ 0)))
structure impl_GoodWorld_J4001 where
  t14 : Bool
structure impl_GoodWorld_G1 where
  t18 : Int
structure impl_GoodWorld_J14006 where
  t31 : Bool
noncomputable def impl_GoodWorld_L1 (a0 : WorldT) (g411 : impl_GoodWorld_G1) : Option (impl_GoodWorld_G1 ⊕ (Unit ⊕ Unit)) :=
  (if (decide (g411.t18 < ((a0.Regions.length : Nat) : Int))) = true then
    (guardO (0 ≤ g411.t18 ∧ g411.t18 < (a0.Regions.length : Int)) <|
    (((if (((nth a0.Regions g411.t18.toNat).Id) != g411.t18) = true then
        some (⟨true⟩ : impl_GoodWorld_J14006)
      else
        ((impl_GoodRegion (⟨(nth a0.Regions g411.t18.toNat).Id, (nth a0.Regions g411.t18.toNat).Version, ((nth a0.Regions g411.t18.toNat).Tellings)⟩ : RegionT)).bind fun c414 =>
        some (⟨(!c414)⟩ : impl_GoodWorld_J14006))) : Option impl_GoodWorld_J14006).bind fun p415 =>
    (if p415.t31 = true then
      some (.inr (.inl ()))
    else
      some (.inl ⟨(wI (g411.t18 + 1))⟩))))
  else
    some (.inr (.inr ())))
noncomputable def impl_GoodWorld (a0 : WorldT) : Option Bool :=
  (((if (((a0.Regions.length : Nat) : Int) != 2) = true then
      some (⟨true⟩ : impl_GoodWorld_J4001)
    else
      some (⟨(decide (((a0.Line.length : Nat) : Int) > 20))⟩ : impl_GoodWorld_J4001)) : Option impl_GoodWorld_J4001).bind fun p410 =>
  (if p410.t14 = true then
    some false
  else
    ((loopF (impl_GoodWorld_L1 a0) ⟨0⟩).bind fun y416 =>
    match y416 with
    | .inl p417 =>
      some false
    | .inr p418 =>
      ((slices_ContainsFunc_impl_Said_impl_GoodWorld_c1 a0.Line).bind fun c429 =>
      some (!c429)))))
structure laws_eqRegionS_G1 where
  t5 : Int
noncomputable def laws_eqRegionS_L1 (a0 : (List RegionT)) (a1 : (List RegionT)) (g433 : laws_eqRegionS_G1) : Option (laws_eqRegionS_G1 ⊕ (Unit ⊕ Unit)) :=
  (if (decide (g433.t5 < ((a0.length : Nat) : Int))) = true then
    (guardO (0 ≤ g433.t5 ∧ g433.t5 < (a0.length : Int)) <|
    (guardO (0 ≤ g433.t5 ∧ g433.t5 < (a1.length : Int)) <|
    ((laws_eqRegion (⟨(nth a0 g433.t5.toNat).Id, (nth a0 g433.t5.toNat).Version, ((nth a0 g433.t5.toNat).Tellings)⟩ : RegionT) (⟨(nth a1 g433.t5.toNat).Id, (nth a1 g433.t5.toNat).Version, ((nth a1 g433.t5.toNat).Tellings)⟩ : RegionT)).bind fun c435 =>
    (if (!c435) = true then
      some (.inr (.inl ()))
    else
      some (.inl ⟨(wI (g433.t5 + 1))⟩)))))
  else
    some (.inr (.inr ())))
noncomputable def laws_eqRegionS (a0 : (List RegionT)) (a1 : (List RegionT)) : Option Bool :=
  (if (((a0.length : Nat) : Int) != ((a1.length : Nat) : Int)) = true then
    some false
  else
    ((loopF (laws_eqRegionS_L1 a0 a1) ⟨0⟩).bind fun y436 =>
    match y436 with
    | .inl p437 =>
      some false
    | .inr p438 =>
      some true))
noncomputable def laws_eqWord (a0 : WordT) (a1 : WordT) : Option Bool :=
  (if (a0.Version != a1.Version) = true then
    some false
  else
    ((laws_eqTellings a0.Tellings a1.Tellings).bind fun c441 =>
    (if (!c441) = true then
      some false
    else
      some true)))
noncomputable def laws_eqSaid (a0 : SaidT) (a1 : SaidT) : Option Bool :=
  (if (a0.To != a1.To) = true then
    some false
  else
    ((laws_eqWord a0.Word a1.Word).bind fun c442 =>
    (if (!c442) = true then
      some false
    else
      some true)))
structure laws_eqSaidS_G1 where
  t5 : Int
noncomputable def laws_eqSaidS_L1 (a0 : (List SaidT)) (a1 : (List SaidT)) (g440 : laws_eqSaidS_G1) : Option (laws_eqSaidS_G1 ⊕ (Unit ⊕ Unit)) :=
  (if (decide (g440.t5 < ((a0.length : Nat) : Int))) = true then
    (guardO (0 ≤ g440.t5 ∧ g440.t5 < (a0.length : Int)) <|
    (guardO (0 ≤ g440.t5 ∧ g440.t5 < (a1.length : Int)) <|
    ((laws_eqSaid (⟨(nth a0 g440.t5.toNat).To, (⟨((nth a0 g440.t5.toNat).Word).Version, (((nth a0 g440.t5.toNat).Word).Tellings)⟩ : WordT)⟩ : SaidT) (⟨(nth a1 g440.t5.toNat).To, (⟨((nth a1 g440.t5.toNat).Word).Version, (((nth a1 g440.t5.toNat).Word).Tellings)⟩ : WordT)⟩ : SaidT)).bind fun c444 =>
    (if (!c444) = true then
      some (.inr (.inl ()))
    else
      some (.inl ⟨(wI (g440.t5 + 1))⟩)))))
  else
    some (.inr (.inr ())))
noncomputable def laws_eqSaidS (a0 : (List SaidT)) (a1 : (List SaidT)) : Option Bool :=
  (if (((a0.length : Nat) : Int) != ((a1.length : Nat) : Int)) = true then
    some false
  else
    ((loopF (laws_eqSaidS_L1 a0 a1) ⟨0⟩).bind fun y445 =>
    match y445 with
    | .inl p446 =>
      some false
    | .inr p447 =>
      some true))
noncomputable def laws_eqWorld (a0 : WorldT) (a1 : WorldT) : Option Bool :=
  ((laws_eqRegionS a0.Regions a1.Regions).bind fun c439 =>
  (if (!c439) = true then
    some false
  else
    ((laws_eqSaidS a0.Line a1.Line).bind fun c448 =>
    (if (!c448) = true then
      some false
    else
      some true))))
noncomputable def laws_FnExactGoodWorld (a0 : WorldT) : Option Bool :=
  ((laws_szWorld a0 1048576).bind fun c359 =>
  (if (decide (c359 < 0)) = true then
    some true
  else
    ((laws_toWorld a0).bind fun c378 =>
    ((spec_GoodWorld c378).bind fun c408 =>
    ((laws_toWorld a0).bind fun c409 =>
    ((impl_GoodWorld c409).bind fun c431 =>
    (if (!(c431 == c408)) = true then
      some false
    else
      ((laws_toWorld a0).bind fun c432 =>
      ((laws_eqWorld c409 c432).bind fun c449 =>
      (if (!c449) = true then
        some false
      else
        some true))))))))))
structure spec_l17SameTellings_G1 where
  t18 : Int
noncomputable def spec_l17SameTellings_L1 (a0 : TellingsT) (a1 : TellingsT) (g453 : spec_l17SameTellings_G1) : Option (spec_l17SameTellings_G1 ⊕ (Unit ⊕ Unit)) :=
  (if (decide (g453.t18 < ((a0.Branches.length : Nat) : Int))) = true then
    (guardO (0 ≤ g453.t18 ∧ g453.t18 < (a0.Branches.length : Int)) <|
    (guardO (0 ≤ g453.t18 ∧ g453.t18 < (a1.Branches.length : Int)) <|
    ((spec_l15Compare ((nth a0.Branches g453.t18.toNat).Events) ((nth a1.Branches g453.t18.toNat).Events)).bind fun c455 =>
    (if (c455.1 != 0) = true then
      some (.inr (.inl ()))
    else
      some (.inl ⟨(wI (g453.t18 + 1))⟩)))))
  else
    some (.inr (.inr ())))
noncomputable def spec_l17SameTellings (a0 : TellingsT) (a1 : TellingsT) : Option Bool :=
  (if (((a0.Branches.length : Nat) : Int) != ((a1.Branches.length : Nat) : Int)) = true then
    some false
  else
    ((loopF (spec_l17SameTellings_L1 a0 a1) ⟨0⟩).bind fun y456 =>
    match y456 with
    | .inl p457 =>
      some false
    | .inr p458 =>
      some true))
noncomputable def spec_l17Same (a0 : RegionT) (a1 : RegionT) : Option Bool :=
  (if (a0.Version == a1.Version) = true then
    ((spec_l17SameTellings a0.Tellings a1.Tellings).bind fun c459 =>
    some c459)
  else
    some false)
noncomputable def spec_SameIn (a0 : WorldT) : Option (Bool × Bool) :=
  ((spec_GoodWorld a0).bind fun c452 =>
  (if (!c452) = true then
    some (false, false)
  else
    (guardO (0 < (a0.Regions.length : Int)) <|
    (guardO (1 < (a0.Regions.length : Int)) <|
    ((spec_l17Same (⟨(nth a0.Regions 0).Id, (nth a0.Regions 0).Version, ((nth a0.Regions 0).Tellings)⟩ : RegionT) (⟨(nth a0.Regions 1).Id, (nth a0.Regions 1).Version, ((nth a0.Regions 1).Tellings)⟩ : RegionT)).bind fun c460 =>
    some (c460, true))))))
noncomputable def impl_sameTellings_c1 (a0 : BranchT) (a1 : BranchT) : Option Bool :=
  ((slices_Equal_impl_Event a0.Events a1.Events).bind fun c465 =>
  some c465)
structure slices_EqualFunc_impl_Branch_impl_sameTellings_c1_G1 where
  t17 : Int
noncomputable def slices_EqualFunc_impl_Branch_impl_sameTellings_c1_L1 (a0 : (List BranchT)) (a1 : (List BranchT)) (g464 : slices_EqualFunc_impl_Branch_impl_sameTellings_c1_G1) : Option (slices_EqualFunc_impl_Branch_impl_sameTellings_c1_G1 ⊕ (Unit ⊕ Unit)) :=
  (if (decide (g464.t17 < ((a0.length : Nat) : Int))) = true then
    (guardO (0 ≤ g464.t17 ∧ g464.t17 < (a0.length : Int)) <|
    (guardO (0 ≤ g464.t17 ∧ g464.t17 < (a1.length : Int)) <|
    ((impl_sameTellings_c1 (nth a0 g464.t17.toNat) (nth a1 g464.t17.toNat)).bind fun c467 =>
    (if (!c467) = true then
      some (.inr (.inl ()))
    else
      some (.inl ⟨(wI (g464.t17 + 1))⟩)))))
  else
    some (.inr (.inr ())))
noncomputable def slices_EqualFunc_impl_Branch_impl_sameTellings_c1 (a0 : (List BranchT)) (a1 : (List BranchT)) : Option Bool :=
  (if (((a0.length : Nat) : Int) != ((a1.length : Nat) : Int)) = true then
    some false
  else
    ((loopF (slices_EqualFunc_impl_Branch_impl_sameTellings_c1_L1 a0 a1) ⟨0⟩).bind fun y468 =>
    match y468 with
    | .inl p469 =>
      some false
    | .inr p470 =>
      some true))
noncomputable def impl_sameTellings (a0 : TellingsT) (a1 : TellingsT) : Option Bool :=
  ((slices_EqualFunc_impl_Branch_impl_sameTellings_c1 a0.Branches a1.Branches).bind fun c471 =>
  some c471)
noncomputable def impl_sameWord_rr (a0 : RegionT) (a1 : RegionT) : Option Bool :=
  (if (a0.Version == a1.Version) = true then
    ((impl_sameTellings a0.Tellings a1.Tellings).bind fun c472 =>
    some c472)
  else
    some false)
noncomputable def impl_SameIn (a0 : WorldT) : Option (Bool × Bool) :=
  ((impl_GoodWorld a0).bind fun c463 =>
  (if (!c463) = true then
    some (false, false)
  else
    (guardO (0 < (a0.Regions.length : Int)) <|
    (guardO (1 < (a0.Regions.length : Int)) <|
    ((impl_sameWord_rr (⟨(nth a0.Regions 0).Id, (nth a0.Regions 0).Version, ((nth a0.Regions 0).Tellings)⟩ : RegionT) (⟨(nth a0.Regions 1).Id, (nth a0.Regions 1).Version, ((nth a0.Regions 1).Tellings)⟩ : RegionT)).bind fun c473 =>
    some (c473, true))))))
structure laws_FnExactSameIn_J4008 where
  t34 : Bool
noncomputable def laws_FnExactSameIn (a0 : WorldT) : Option Bool :=
  ((laws_szWorld a0 1048576).bind fun c450 =>
  (if (decide (c450 < 0)) = true then
    some true
  else
    ((laws_toWorld a0).bind fun c451 =>
    ((spec_SameIn c451).bind fun c461 =>
    ((laws_toWorld a0).bind fun c462 =>
    ((impl_SameIn c462).bind fun c474 =>
    (((if (!(c474.1 == c461.1)) = true then
        some (⟨true⟩ : laws_FnExactSameIn_J4008)
      else
        some (⟨(!(c474.2 == c461.2))⟩ : laws_FnExactSameIn_J4008)) : Option laws_FnExactSameIn_J4008).bind fun p475 =>
    (if p475.t34 = true then
      some false
    else
      ((laws_toWorld a0).bind fun c476 =>
      ((laws_eqWorld c462 c476).bind fun c477 =>
      (if (!c477) = true then
        some false
      else
        some true)))))))))))
end Go.TL
namespace Go.TL
structure spec_EventsIn_G1 where
  t4 : Int
  t18 : Int
structure spec_EventsIn_P1_0 where
  t4 : Int
structure spec_EventsIn_G2 where
  t7 : Int
  t28 : Int
structure spec_EventsIn_P2_0 where
  t7 : Int
noncomputable def spec_EventsIn_L2 (a0 : TellingsT) (g131 : spec_EventsIn_G1) (g136 : spec_EventsIn_G2) : Option (spec_EventsIn_G2 ⊕ spec_EventsIn_P2_0) :=
  (if (decide (g136.t28 < (((a0.Branches.take g131.t18.toNat).length : Nat) : Int))) = true then
    (guardO (0 ≤ g136.t28 ∧ g136.t28 < ((a0.Branches.take g131.t18.toNat).length : Int)) <|
    ((spec_l15Compare ((nth (a0.Branches.take g131.t18.toNat) g136.t28.toNat).Events) ((nth a0.Branches g131.t18.toNat).Events)).bind fun c138 =>
    (if (decide (c138.2 > g136.t7)) = true then
      some (.inl ⟨c138.2, (wI (g136.t28 + 1))⟩)
    else
      some (.inl ⟨g136.t7, (wI (g136.t28 + 1))⟩))))
  else
    some (.inr (⟨g136.t7⟩)))
noncomputable def spec_EventsIn_L1 (a0 : TellingsT) (g131 : spec_EventsIn_G1) : Option (spec_EventsIn_G1 ⊕ spec_EventsIn_P1_0) :=
  (if (decide (g131.t18 < ((a0.Branches.length : Nat) : Int))) = true then
    (guardO (0 ≤ g131.t18 ∧ g131.t18 < (a0.Branches.length : Int)) <|
    (guardO (0 ≤ g131.t18 ∧ g131.t18 ≤ (a0.Branches.length : Int)) <|
    ((loopF (spec_EventsIn_L2 a0 g131) ⟨0, 0⟩).bind fun y139 =>
    some (.inl ⟨(wI (g131.t4 + (wI (((((nth a0.Branches g131.t18.toNat).Events).length : Nat) : Int) - y139.t7)))), (wI (g131.t18 + 1))⟩))))
  else
    some (.inr (⟨g131.t4⟩)))
noncomputable def spec_EventsIn (a0 : TellingsT) : Option (Int × Bool) :=
  ((spec_GoodTellings a0).bind fun c130 =>
  (if (!c130) = true then
    some (0, false)
  else
    ((loopF (spec_EventsIn_L1 a0) ⟨0, 0⟩).bind fun y140 =>
    some (y140.t4, true))))
structure impl_EventsIn_G1 where
  t4 : Int
  t16 : Int
structure impl_EventsIn_P1_0 where
  t4 : Int
structure impl_EventsIn_G2 where
  t7 : Int
  t26 : Int
structure impl_EventsIn_P2_0 where
  t7 : Int
noncomputable def impl_EventsIn_L2 (a0 : TellingsT) (g284 : impl_EventsIn_G1) (g291 : impl_EventsIn_G2) : Option (impl_EventsIn_G2 ⊕ impl_EventsIn_P2_0) :=
  (if (decide (g291.t26 < (((a0.Branches.take g284.t16.toNat).length : Nat) : Int))) = true then
    (guardO (0 ≤ g291.t26 ∧ g291.t26 < ((a0.Branches.take g284.t16.toNat).length : Int)) <|
    ((impl_shared ((nth a0.Branches g284.t16.toNat).Events) ((nth (a0.Branches.take g284.t16.toNat) g291.t26.toNat).Events)).bind fun c293 =>
    some (.inl ⟨(max g291.t7 c293), (wI (g291.t26 + 1))⟩)))
  else
    some (.inr (⟨g291.t7⟩)))
noncomputable def impl_EventsIn_L1 (a0 : TellingsT) (g284 : impl_EventsIn_G1) : Option (impl_EventsIn_G1 ⊕ impl_EventsIn_P1_0) :=
  (if (decide (g284.t16 < ((a0.Branches.length : Nat) : Int))) = true then
    (guardO (0 ≤ g284.t16 ∧ g284.t16 < (a0.Branches.length : Int)) <|
    (guardO (0 ≤ g284.t16 ∧ g284.t16 ≤ (a0.Branches.length : Int)) <|
    ((loopF (impl_EventsIn_L2 a0 g284) ⟨0, 0⟩).bind fun y294 =>
    some (.inl ⟨(wI (g284.t4 + (wI (((((nth a0.Branches g284.t16.toNat).Events).length : Nat) : Int) - y294.t7)))), (wI (g284.t16 + 1))⟩))))
  else
    some (.inr (⟨g284.t4⟩)))
noncomputable def impl_EventsIn (a0 : TellingsT) : Option (Int × Bool) :=
  ((impl_GoodTellings a0).bind fun c283 =>
  (if (!c283) = true then
    some (0, false)
  else
    ((loopF (impl_EventsIn_L1 a0) ⟨0, 0⟩).bind fun y295 =>
    some (y295.t4, true))))
structure laws_FnExactEventsIn_J4008 where
  t34 : Bool
noncomputable def laws_FnExactEventsIn (a0 : TellingsT) : Option Bool :=
  ((laws_szTellings a0 1048576).bind fun c15 =>
  (if (decide (c15 < 0)) = true then
    some true
  else
    ((laws_toTellings a0).bind fun c29 =>
    ((spec_EventsIn c29).bind fun c141 =>
    ((laws_toTellings a0).bind fun c142 =>
    ((impl_EventsIn c142).bind fun c296 =>
    (((if (c296.1 != c141.1) = true then
        some (⟨true⟩ : laws_FnExactEventsIn_J4008)
      else
        some (⟨(!(c296.2 == c141.2))⟩ : laws_FnExactEventsIn_J4008)) : Option laws_FnExactEventsIn_J4008).bind fun p297 =>
    (if p297.t34 = true then
      some false
    else
      ((laws_toTellings a0).bind fun c298 =>
      ((laws_eqTellings c142 c298).bind fun c313 =>
      (if (!c313) = true then
        some false
      else
        some true)))))))))))
end Go.TL
namespace Go.TL
noncomputable def spec_l1Num (a0 : Int) : Option ByteArray :=
  guardO (0 ≤ a0 ∧ a0 < 10) (some (bstr ([48 + a0])))
structure spec_l1Cur_domains_o_G1 where
  t9 : Int
  b0_0 : (List Int)
  b0_1 : Int
  b0_2 : Int
  c1 : (List DomainT)
structure spec_l1Cur_domains_o_P1_0 where
  b0_0 : (List Int)
  b0_1 : Int
  b0_2 : Int
  c1 : (List DomainT)
noncomputable def spec_l1Cur_domains_o_L1 (g3 : spec_l1Cur_domains_o_G1) : Option (spec_l1Cur_domains_o_G1 ⊕ spec_l1Cur_domains_o_P1_0) :=
  (if (decide (g3.t9 < 5)) = true then
    (guardO (0 ≤ g3.t9 ∧ g3.t9 < 5) <|
    ((spec_l1Cur_one_o (⟨g3.b0_0, g3.b0_1, g3.b0_2⟩ : l1CurT) 2).bind fun c12 =>
    (if c12.1 = true then
      ((spec_l1Cur_pick_o c12.2 30).bind fun c13 =>
      ((spec_l1Cur_of_ow c13.2 ([ByteArray.empty, (⟨#[120]⟩ : ByteArray), (⟨#[121]⟩ : ByteArray)])).bind fun c14 =>
      (guardO ((g3.c1.length + 1) * 40 ≤ 140737488355328) <|
      some (.inl ⟨(wI (g3.t9 + 1)), c14.2.code, c14.2.at_, c14.2.seed, (g3.c1 ++ ([(⟨(nth ([(⟨#[97]⟩ : ByteArray), (⟨#[98]⟩ : ByteArray), (⟨#[99]⟩ : ByteArray), (⟨#[100, 49]⟩ : ByteArray), (⟨#[112, 97, 121]⟩ : ByteArray)]) g3.t9.toNat), c13.1, c14.1⟩ : DomainT)]))⟩))))
    else
      some (.inl ⟨(wI (g3.t9 + 1)), c12.2.code, c12.2.at_, c12.2.seed, g3.c1⟩))))
  else
    some (.inr (⟨g3.b0_0, g3.b0_1, g3.b0_2, g3.c1⟩)))
structure spec_l1Cur_domains_o_J2027 where
  b0_0 : (List Int)
  b0_1 : Int
  b0_2 : Int
  c1 : (List DomainT)
structure spec_l1Cur_domains_o_G2 where
  t6 : Int
  c1 : (List DomainT)
structure spec_l1Cur_domains_o_P2_0 where
  c1 : (List DomainT)
noncomputable def spec_l1Cur_domains_o_L2 (g17 : spec_l1Cur_domains_o_G2) : Option (spec_l1Cur_domains_o_G2 ⊕ spec_l1Cur_domains_o_P2_0) :=
  (if (decide (g17.t6 < 8)) = true then
    ((spec_l1Num g17.t6).bind fun c19 =>
    (guardO ((⟨#[122]⟩ : ByteArray).size + c19.size ≤ 9223372036854775807) <|
    (guardO ((g17.c1.length + 1) * 40 ≤ 140737488355328) <|
    some (.inl ⟨(wI (g17.t6 + 1)), (g17.c1 ++ ([(⟨((⟨#[122]⟩ : ByteArray) ++ c19), g17.t6, ByteArray.empty⟩ : DomainT)]))⟩))))
  else
    some (.inr (⟨g17.c1⟩)))
structure spec_l1Cur_domains_o_J4013 where
  t46 : Bool
  b0_0 : (List Int)
  b0_1 : Int
  b0_2 : Int
noncomputable def spec_l1Cur_domains_o (a0 : l1CurT) : Option ((List DomainT) × l1CurT) :=
  ((loopF (spec_l1Cur_domains_o_L1) ⟨0, a0.code, a0.at_, a0.seed, []⟩).bind fun y15 =>
  ((((spec_l1Cur_one_o (⟨y15.b0_0, y15.b0_1, y15.b0_2⟩ : l1CurT) 20).bind fun c16 =>
    (if c16.1 = true then
      ((loopF (spec_l1Cur_domains_o_L2) ⟨0, y15.c1⟩).bind fun y20 =>
      some (⟨c16.2.code, c16.2.at_, c16.2.seed, y20.c1⟩ : spec_l1Cur_domains_o_J2027))
    else
      some (⟨c16.2.code, c16.2.at_, c16.2.seed, y15.c1⟩ : spec_l1Cur_domains_o_J2027))) : Option spec_l1Cur_domains_o_J2027).bind fun p21 =>
  (((if (decide (((p21.c1.length : Nat) : Int) > 0)) = true then
      ((spec_l1Cur_one_o (⟨p21.b0_0, p21.b0_1, p21.b0_2⟩ : l1CurT) 30).bind fun c22 =>
      some (⟨c22.1, c22.2.code, c22.2.at_, c22.2.seed⟩ : spec_l1Cur_domains_o_J4013))
    else
      some (⟨false, p21.b0_0, p21.b0_1, p21.b0_2⟩ : spec_l1Cur_domains_o_J4013)) : Option spec_l1Cur_domains_o_J4013).bind fun p23 =>
  (if p23.t46 = true then
    ((spec_l1Cur_of_ow (⟨p23.b0_0, p23.b0_1, p23.b0_2⟩ : l1CurT) ([ByteArray.empty, (⟨#[122, 122]⟩ : ByteArray), (⟨#[65]⟩ : ByteArray)])).bind fun c24 =>
    (guardO (0 < ((p21.c1.length : Nat) : Int)) <|
    some ((p21.c1.set 0 (⟨c24.1, (nth p21.c1 0).Version, (nth p21.c1 0).Note⟩ : DomainT)), c24.2)))
  else
    some (p21.c1, (⟨p23.b0_0, p23.b0_1, p23.b0_2⟩ : l1CurT))))))
noncomputable def spec_DrawMergeDomains (a0 : (List Int)) : Option ((List DomainT) × (List DomainT)) :=
  ((spec_l1Cur_domains_o (⟨a0, 0, 0⟩ : l1CurT)).bind fun c34 =>
  ((spec_l1Cur_domains_o c34.2).bind fun c35 =>
  some (c34.1, c35.1)))
structure laws_sameDomains_G1 where
  t13 : Int
noncomputable def laws_sameDomains_L1 (a0 : (List DomainT)) (a1 : (List DomainT)) (g122 : laws_sameDomains_G1) : Option (laws_sameDomains_G1 ⊕ (Unit ⊕ Unit)) :=
  (if (decide (g122.t13 < ((a0.length : Nat) : Int))) = true then
    (guardO (0 ≤ g122.t13 ∧ g122.t13 < (a0.length : Int)) <|
    (guardO (0 ≤ g122.t13 ∧ g122.t13 < (a1.length : Int)) <|
    (if (!((((nth a0 g122.t13.toNat).Name).toList == ((nth a1 g122.t13.toNat).Name).toList) && ((((nth a0 g122.t13.toNat).Version) == ((nth a1 g122.t13.toNat).Version)) && (((nth a0 g122.t13.toNat).Note).toList == ((nth a1 g122.t13.toNat).Note).toList)))) = true then
      some (.inr (.inl ()))
    else
      some (.inl ⟨(wI (g122.t13 + 1))⟩))))
  else
    some (.inr (.inr ())))
noncomputable def laws_sameDomains (a0 : (List DomainT)) (a1 : (List DomainT)) : Option Bool :=
  (if (((a0.length : Nat) : Int) != ((a1.length : Nat) : Int)) = true then
    some false
  else
    ((loopF (laws_sameDomains_L1 a0 a1) ⟨0⟩).bind fun y123 =>
    match y123 with
    | .inl p124 =>
      some false
    | .inr p125 =>
      some true))
noncomputable def spec_DrawFailOver (a0 : (List Int)) : Option ((List DomainT) × ByteArray × Int) :=
  ((spec_l1Cur_domains_o (⟨a0, 0, 0⟩ : l1CurT)).bind fun c152 =>
  ((spec_l1Cur_of_ow c152.2 ([(⟨#[97]⟩ : ByteArray), (⟨#[98]⟩ : ByteArray), (⟨#[99]⟩ : ByteArray), (⟨#[120]⟩ : ByteArray)])).bind fun c153 =>
  ((spec_l1Cur_pick_o c153.2 12).bind fun c154 =>
  some (c152.1, c153.1, (wI (c154.1 - 1))))))
structure laws_FnDomains_J4007 where
  t89 : Bool
structure laws_FnDomains_J4014 where
  t148 : Bool
structure laws_FnDomains_J4019 where
  t177 : Bool
noncomputable def laws_FnDomains (a0 : (List Int)) (a1 : (List Int)) : Option Bool :=
  (if (decide ((wI (((a0.length : Nat) : Int) + ((a1.length : Nat) : Int))) > 1048576)) = true then
    some true
  else
    ((spec_DrawMergeDomains a0).bind fun c36 =>
    ((impl_MergeDomains c36.1 c36.2).bind fun c81 =>
    ((spec_MergeDomains c36.1 c36.2).bind fun c120 =>
    ((impl_MergeDomains c36.2 c36.1).bind fun c121 =>
    (((if (!(c81.2 == c120.2)) = true then
        some (⟨true⟩ : laws_FnDomains_J4007)
      else
        (if (!(c121.2 == c120.2)) = true then
          some (⟨true⟩ : laws_FnDomains_J4007)
        else
          ((laws_sameDomains c81.1 c120.1).bind fun c126 =>
          (if (!c126) = true then
            some (⟨true⟩ : laws_FnDomains_J4007)
          else
            ((laws_sameDomains c121.1 c81.1).bind fun c127 =>
            (if (!c127) = true then
              some (⟨true⟩ : laws_FnDomains_J4007)
            else
              ((impl_GoodDomains c36.1).bind fun c128 =>
              ((spec_GoodDomains c36.1).bind fun c129 =>
              some (⟨(!(c128 == c129))⟩ : laws_FnDomains_J4007))))))))) : Option laws_FnDomains_J4007).bind fun p130 =>
    (if p130.t89 = true then
      some false
    else
      (((if c81.2 = true then
          ((impl_MergeDomains c81.1 c81.1).bind fun c131 =>
          ((impl_KnowsAll c36.1 c81.1).bind fun c145 =>
          ((impl_KnowsAll c36.2 c81.1).bind fun c146 =>
          ((impl_MergeDomains c81.1 c36.1).bind fun c147 =>
          (((if (!c131.2) = true then
              some (⟨true⟩ : laws_FnDomains_J4014)
            else
              (if (!c145.2) = true then
                some (⟨true⟩ : laws_FnDomains_J4014)
              else
                (if (!c146.2) = true then
                  some (⟨true⟩ : laws_FnDomains_J4014)
                else
                  (if (!c147.2) = true then
                    some (⟨true⟩ : laws_FnDomains_J4014)
                  else
                    (if (!c145.1) = true then
                      some (⟨true⟩ : laws_FnDomains_J4014)
                    else
                      (if (!c146.1) = true then
                        some (⟨true⟩ : laws_FnDomains_J4014)
                      else
                        ((laws_sameDomains c131.1 c81.1).bind fun c148 =>
                        (if (!c148) = true then
                          some (⟨true⟩ : laws_FnDomains_J4014)
                        else
                          ((laws_sameDomains c147.1 c81.1).bind fun c149 =>
                          some (⟨(!c149)⟩ : laws_FnDomains_J4014)))))))))) : Option laws_FnDomains_J4014).bind fun p150 =>
          (if p150.t148 = true then
            some (.inr false)
          else
            some (.inl (() : Unit))))))))
        else
          some (.inl (() : Unit))) : Option (Unit ⊕ Bool)).bind fun q => match q with
      | .inl p151 =>
        ((spec_DrawFailOver a1).bind fun c155 =>
        ((impl_FailOver c155.1 c155.2.1 c155.2.2).bind fun c167 =>
        ((spec_FailOver c155.1 c155.2.1 c155.2.2).bind fun c180 =>
        (((if (!(c167.2 == c180.2)) = true then
            some (⟨true⟩ : laws_FnDomains_J4019)
          else
            ((laws_sameDomains c167.1 c180.1).bind fun c181 =>
            some (⟨(!c181)⟩ : laws_FnDomains_J4019))) : Option laws_FnDomains_J4019).bind fun p182 =>
        (if p182.t177 = true then
          some false
        else
          (if (!c167.2) = true then
            some (((c167.1.length : Nat) : Int) == 0)
          else
            ((impl_LeaderOf c167.1 c155.2.1).bind fun c188 =>
            ((impl_KnowsAll c155.1 c167.1).bind fun c189 =>
            ((impl_KnowsAll c167.1 c155.1).bind fun c190 =>
            (if c188.2 = true then
              (if (c188.1 == c155.2.2) = true then
                (if c189.2 = true then
                  (if c189.1 = true then
                    (if c190.2 = true then
                      some (!c190.1)
                    else
                      some false)
                  else
                    some false)
                else
                  some false)
              else
                some false)
            else
              some false))))))))))
      | .inr v => some v))))))))
end Go.TL

import Derived.Test.YtmooampfjclmiaaGreatDoorG19PlR1
import Derived.Test.YtmooampfjclmiaaGreatDoorPlSort
set_option linter.unusedSimpArgs false
set_option linter.unusedVariables false
namespace Go.TL
structure spec_MergeDomains_J4001 where
  t17 : Bool
structure spec_MergeDomains_G1 where
  t7 : Int
  t8 : Int
  c0 : (List DomainT)
structure spec_MergeDomains_P1_0 where
  c0 : (List DomainT)
structure spec_MergeDomains_J24013 where
  t50 : Bool
structure spec_MergeDomains_J24016 where
  t83 : Bool
structure spec_MergeDomains_J22037 where
  b1_0 : ByteArray
  b1_1 : Int
  b1_2 : ByteArray
structure spec_MergeDomains_J34013 where
  t50 : Bool
structure spec_MergeDomains_J34016 where
  t83 : Bool
structure spec_MergeDomains_J32037 where
  b1_0 : ByteArray
  b1_1 : Int
  b1_2 : ByteArray
noncomputable def spec_MergeDomains_L1 (a0 : (List DomainT)) (a1 : (List DomainT)) (g35 : spec_MergeDomains_G1) : Option (spec_MergeDomains_G1 ⊕ spec_MergeDomains_P1_0) :=
  (if (decide (g35.t7 < ((a0.length : Nat) : Int))) = true then
    (((if (g35.t8 == ((a1.length : Nat) : Int)) = true then
        some (⟨true⟩ : spec_MergeDomains_J24013)
      else
        (if (decide (g35.t7 < ((a0.length : Nat) : Int))) = true then
          (guardO (0 ≤ g35.t7 ∧ g35.t7 < (a0.length : Int)) <|
          (guardO (0 ≤ g35.t8 ∧ g35.t8 < (a1.length : Int)) <|
          some (⟨(sLt ((nth a0 g35.t7.toNat).Name) ((nth a1 g35.t8.toNat).Name))⟩ : spec_MergeDomains_J24013)))
        else
          some (⟨false⟩ : spec_MergeDomains_J24013))) : Option spec_MergeDomains_J24013).bind fun p44 =>
    (if p44.t50 = true then
      (guardO (0 ≤ g35.t7 ∧ g35.t7 < (a0.length : Int)) <|
      (guardO ((g35.c0.length + 1) * 40 ≤ 140737488355328) <|
      some (.inl ⟨(wI (g35.t7 + 1)), g35.t8, (g35.c0 ++ ([(nth a0 g35.t7.toNat)]))⟩)))
    else
      (((if (g35.t7 == ((a0.length : Nat) : Int)) = true then
          some (⟨true⟩ : spec_MergeDomains_J24016)
        else
          (guardO (0 ≤ g35.t8 ∧ g35.t8 < (a1.length : Int)) <|
          (guardO (0 ≤ g35.t7 ∧ g35.t7 < (a0.length : Int)) <|
          some (⟨(sLt ((nth a1 g35.t8.toNat).Name) ((nth a0 g35.t7.toNat).Name))⟩ : spec_MergeDomains_J24016)))) : Option spec_MergeDomains_J24016).bind fun p45 =>
      (if p45.t83 = true then
        (guardO (0 ≤ g35.t8 ∧ g35.t8 < (a1.length : Int)) <|
        (guardO ((g35.c0.length + 1) * 40 ≤ 140737488355328) <|
        some (.inl ⟨g35.t7, (wI (g35.t8 + 1)), (g35.c0 ++ ([(nth a1 g35.t8.toNat)]))⟩)))
      else
        (guardO (0 ≤ g35.t7 ∧ g35.t7 < (a0.length : Int)) <|
        (((guardO (0 ≤ g35.t8 ∧ g35.t8 < (a1.length : Int)) <|
          ((spec_l13Less (nth a0 g35.t7.toNat) (nth a1 g35.t8.toNat)).bind fun c46 =>
          (if c46 = true then
            (guardO (0 ≤ g35.t8 ∧ g35.t8 < (a1.length : Int)) <|
            some (⟨(nth a1 g35.t8.toNat).Name, (nth a1 g35.t8.toNat).Version, (nth a1 g35.t8.toNat).Note⟩ : spec_MergeDomains_J22037))
          else
            some (⟨(nth a0 g35.t7.toNat).Name, (nth a0 g35.t7.toNat).Version, (nth a0 g35.t7.toNat).Note⟩ : spec_MergeDomains_J22037)))) : Option spec_MergeDomains_J22037).bind fun p47 =>
        (guardO ((g35.c0.length + 1) * 40 ≤ 140737488355328) <|
        some (.inl ⟨(wI (g35.t7 + 1)), (wI (g35.t8 + 1)), (g35.c0 ++ ([(⟨p47.b1_0, p47.b1_1, p47.b1_2⟩ : DomainT)]))⟩))))))))
  else
    (if (decide (g35.t8 < ((a1.length : Nat) : Int))) = true then
      (((if (g35.t8 == ((a1.length : Nat) : Int)) = true then
          some (⟨true⟩ : spec_MergeDomains_J34013)
        else
          (if (decide (g35.t7 < ((a0.length : Nat) : Int))) = true then
            (guardO (0 ≤ g35.t7 ∧ g35.t7 < (a0.length : Int)) <|
            (guardO (0 ≤ g35.t8 ∧ g35.t8 < (a1.length : Int)) <|
            some (⟨(sLt ((nth a0 g35.t7.toNat).Name) ((nth a1 g35.t8.toNat).Name))⟩ : spec_MergeDomains_J34013)))
          else
            some (⟨false⟩ : spec_MergeDomains_J34013))) : Option spec_MergeDomains_J34013).bind fun p48 =>
      (if p48.t50 = true then
        (guardO (0 ≤ g35.t7 ∧ g35.t7 < (a0.length : Int)) <|
        (guardO ((g35.c0.length + 1) * 40 ≤ 140737488355328) <|
        some (.inl ⟨(wI (g35.t7 + 1)), g35.t8, (g35.c0 ++ ([(nth a0 g35.t7.toNat)]))⟩)))
      else
        (((if (g35.t7 == ((a0.length : Nat) : Int)) = true then
            some (⟨true⟩ : spec_MergeDomains_J34016)
          else
            (guardO (0 ≤ g35.t8 ∧ g35.t8 < (a1.length : Int)) <|
            (guardO (0 ≤ g35.t7 ∧ g35.t7 < (a0.length : Int)) <|
            some (⟨(sLt ((nth a1 g35.t8.toNat).Name) ((nth a0 g35.t7.toNat).Name))⟩ : spec_MergeDomains_J34016)))) : Option spec_MergeDomains_J34016).bind fun p49 =>
        (if p49.t83 = true then
          (guardO (0 ≤ g35.t8 ∧ g35.t8 < (a1.length : Int)) <|
          (guardO ((g35.c0.length + 1) * 40 ≤ 140737488355328) <|
          some (.inl ⟨g35.t7, (wI (g35.t8 + 1)), (g35.c0 ++ ([(nth a1 g35.t8.toNat)]))⟩)))
        else
          (guardO (0 ≤ g35.t7 ∧ g35.t7 < (a0.length : Int)) <|
          (((guardO (0 ≤ g35.t8 ∧ g35.t8 < (a1.length : Int)) <|
            ((spec_l13Less (nth a0 g35.t7.toNat) (nth a1 g35.t8.toNat)).bind fun c50 =>
            (if c50 = true then
              (guardO (0 ≤ g35.t8 ∧ g35.t8 < (a1.length : Int)) <|
              some (⟨(nth a1 g35.t8.toNat).Name, (nth a1 g35.t8.toNat).Version, (nth a1 g35.t8.toNat).Note⟩ : spec_MergeDomains_J32037))
            else
              some (⟨(nth a0 g35.t7.toNat).Name, (nth a0 g35.t7.toNat).Version, (nth a0 g35.t7.toNat).Note⟩ : spec_MergeDomains_J32037)))) : Option spec_MergeDomains_J32037).bind fun p51 =>
          (guardO ((g35.c0.length + 1) * 40 ≤ 140737488355328) <|
          some (.inl ⟨(wI (g35.t7 + 1)), (wI (g35.t8 + 1)), (g35.c0 ++ ([(⟨p51.b1_0, p51.b1_1, p51.b1_2⟩ : DomainT)]))⟩))))))))
    else
      some (.inr (⟨g35.c0⟩))))
noncomputable def spec_MergeDomains (a0 : (List DomainT)) (a1 : (List DomainT)) : Option ((List DomainT) × Bool) :=
  ((((spec_GoodDomains a0).bind fun c32 =>
    (if (!c32) = true then
      some (⟨true⟩ : spec_MergeDomains_J4001)
    else
      ((spec_GoodDomains a1).bind fun c33 =>
      some (⟨(!c33)⟩ : spec_MergeDomains_J4001)))) : Option spec_MergeDomains_J4001).bind fun p34 =>
  (if p34.t17 = true then
    some ([], false)
  else
    ((loopF (spec_MergeDomains_L1 a0 a1) ⟨0, 0, []⟩).bind fun y52 =>
    (if (decide (((y52.c0.length : Nat) : Int) > 12)) = true then
      some ([], false)
    else
      some (y52.c0, true)))))
noncomputable def slices_SortFunc_impl_Domain_by_name (a0 : (List DomainT)) : Option (List DomainT) :=
  guardO (a0.length < 4611686018427387904 ∧ aptO (fun x y : DomainT => sLt x.Name y.Name) a0 = true) (some (sortO (fun x y : DomainT => sLt x.Name y.Name) a0))
structure impl_MergeDomains_J4001 where
  t17 : Bool
structure impl_MergeDomains_G1 where
  t22 : Int
  c0 : (List DomainT)
structure impl_MergeDomains_P1_0 where
  c0 : (List DomainT)
noncomputable def impl_MergeDomains_L1 (a1 : (List DomainT)) (g72 : impl_MergeDomains_G1) : Option (impl_MergeDomains_G1 ⊕ impl_MergeDomains_P1_0) :=
  (if (decide (g72.t22 < ((a1.length : Nat) : Int))) = true then
    (guardO (0 ≤ g72.t22 ∧ g72.t22 < (a1.length : Int)) <|
    ((impl_domainAt g72.c0 ((nth a1 g72.t22.toNat).Name)).bind fun c93 =>
    (if (decide (c93 < 0)) = true then
      (guardO ((g72.c0.length + 1) * 40 ≤ 140737488355328) <|
      some (.inl ⟨(wI (g72.t22 + 1)), (g72.c0 ++ ([(nth a1 g72.t22.toNat)]))⟩))
    else
      (guardO (0 ≤ c93 ∧ c93 < ((g72.c0.length : Nat) : Int)) <|
      ((impl_greater (nth a1 g72.t22.toNat) (nth g72.c0 c93.toNat)).bind fun c94 =>
      (if (decide (c94 > 0)) = true then
        (guardO (0 ≤ c93 ∧ c93 < ((g72.c0.length : Nat) : Int)) <|
        some (.inl ⟨(wI (g72.t22 + 1)), (g72.c0.set c93.toNat (nth a1 g72.t22.toNat))⟩))
      else
        some (.inl ⟨(wI (g72.t22 + 1)), g72.c0⟩)))))))
  else
    some (.inr (⟨g72.c0⟩)))
noncomputable def impl_MergeDomains (a0 : (List DomainT)) (a1 : (List DomainT)) : Option ((List DomainT) × Bool) :=
  ((((impl_GoodDomains a0).bind fun c68 =>
    (if (!c68) = true then
      some (⟨true⟩ : impl_MergeDomains_J4001)
    else
      ((impl_GoodDomains a1).bind fun c69 =>
      some (⟨(!c69)⟩ : impl_MergeDomains_J4001)))) : Option impl_MergeDomains_J4001).bind fun p70 =>
  (if p70.t17 = true then
    some ([], false)
  else
    ((slices_Clone_impl_Domain a0).bind fun c71 =>
    ((loopF (impl_MergeDomains_L1 a1) ⟨0, c71⟩).bind fun y95 =>
    ((slices_SortFunc_impl_Domain_by_name y95.c0).bind fun c96 =>
    (guardO (c96.length = y95.c0.length) <|
    ((impl_GoodDomains c96).bind fun c97 =>
    (if (!c97) = true then
      some ([], false)
    else
      some (c96, true)))))))))
structure laws_FnExactMergeDomains_J4012 where
  t53 : Bool
structure laws_FnExactMergeDomains_J4021 where
  t82 : Bool
structure laws_FnExactMergeDomains_J4032 where
  t110 : Bool
noncomputable def laws_FnExactMergeDomains (a0 : (List DomainT)) (a1 : (List DomainT)) : Option Bool :=
  ((laws_szDomainS a0 1048576).bind fun c7 =>
  (if (decide (c7 < 0)) = true then
    some true
  else
    ((laws_szDomainS a1 c7).bind fun c8 =>
    (if (decide (c8 < 0)) = true then
      some true
    else
      ((laws_toDomainS a0).bind fun c13 =>
      ((laws_toDomainS a1).bind fun c14 =>
      ((spec_MergeDomains c13 c14).bind fun c53 =>
      ((laws_toDomainS a0).bind fun c54 =>
      ((laws_toDomainS a1).bind fun c55 =>
      ((impl_MergeDomains c54 c55).bind fun c100 =>
      ((((laws_eqDomainS c100.1 c53.1).bind fun c107 =>
        (if (!c107) = true then
          some (⟨true⟩ : laws_FnExactMergeDomains_J4012)
        else
          some (⟨(!(c100.2 == c53.2))⟩ : laws_FnExactMergeDomains_J4012))) : Option laws_FnExactMergeDomains_J4012).bind fun p108 =>
      (if p108.t53 = true then
        some false
      else
        ((laws_toDomainS a0).bind fun c109 =>
        ((laws_eqDomainS c54 c109).bind fun c110 =>
        (if (!c110) = true then
          some false
        else
          ((laws_toDomainS a1).bind fun c111 =>
          ((laws_eqDomainS c55 c111).bind fun c112 =>
          (if (!c112) = true then
            some false
          else
            ((laws_markDomainS_w c54 1).bind fun c123 =>
            (guardO (c123.2.length = c54.length) <|
            ((laws_markDomainS_w c55 c123.1).bind fun c124 =>
            (guardO (c124.2.length = c55.length) <|
            (((if (decide (c124.1 < 0)) = true then
                some (⟨true⟩ : laws_FnExactMergeDomains_J4021)
              else
                ((laws_eqDomainS c100.1 c53.1).bind fun c125 =>
                (if (!c125) = true then
                  some (⟨true⟩ : laws_FnExactMergeDomains_J4021)
                else
                  some (⟨(!(c100.2 == c53.2))⟩ : laws_FnExactMergeDomains_J4021)))) : Option laws_FnExactMergeDomains_J4021).bind fun p126 =>
            (if p126.t82 = true then
              some false
            else
              ((laws_markDomainS_w c100.1 1).bind fun c127 =>
              (guardO (c127.2.length = c100.1.length) <|
              ((laws_heldDomainS c127.2 1).bind fun c136 =>
              (if (decide (c136 < 0)) = true then
                some false
              else
                (if (c136 != c127.1) = true then
                  some false
                else
                  ((laws_toDomainS a0).bind fun c137 =>
                  ((laws_toDomainS a1).bind fun c138 =>
                  ((impl_MergeDomains c137 c138).bind fun c139 =>
                  ((((laws_eqDomainS c139.1 c53.1).bind fun c140 =>
                    (if (!c140) = true then
                      some (⟨true⟩ : laws_FnExactMergeDomains_J4032)
                    else
                      some (⟨(!(c139.2 == c53.2))⟩ : laws_FnExactMergeDomains_J4032))) : Option laws_FnExactMergeDomains_J4032).bind fun p141 =>
                  (if p141.t110 = true then
                    some false
                  else
                    ((laws_heldDomainS c127.2 1).bind fun c142 =>
                    (if (decide (c142 < 0)) = true then
                      some false
                    else
                      (if (c142 != c127.1) = true then
                        some false
                      else
                        some true)))))))))))))))))))))))))))))))))))))
end Go.TL

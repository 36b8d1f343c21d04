import Derived.Test.YtjhcfmcdllfmpaaDoorPlR2
import Derived.Test.YtjhcfmcdllfmpaaDoorPlTrim
set_option linter.unusedSimpArgs false
set_option linter.unusedVariables false
namespace Go.TL
structure DomainT where
  Name : ByteArray
  Version : Int
  Note : ByteArray
  deriving DecidableEq, Inhabited
noncomputable def laws_szDomain (a0 : DomainT) (a1 : Int) : Option Int :=
  (if (decide ((wI (a1 - (a0.Name.size : Int))) < 0)) = true then
    some (-1)
  else
    (if (decide ((wI ((wI (a1 - (a0.Name.size : Int))) - (a0.Note.size : Int))) < 0)) = true then
      some (-1)
    else
      some (wI ((wI (a1 - (a0.Name.size : Int))) - (a0.Note.size : Int)))))
structure laws_szDomainS_G1 where
  t1 : Int
  t5 : Int
structure laws_szDomainS_P1_1 where
  t1 : Int
noncomputable def laws_szDomainS_L1 (a0 : (List DomainT)) (g1 : laws_szDomainS_G1) : Option (laws_szDomainS_G1 ⊕ (Unit ⊕ laws_szDomainS_P1_1)) :=
  (if (decide (g1.t5 < ((a0.length : Nat) : Int))) = true then
    (guardO (0 ≤ g1.t5 ∧ g1.t5 < (a0.length : Int)) <|
    ((laws_szDomain (nth a0 g1.t5.toNat) g1.t1).bind fun c3 =>
    (if (decide (c3 < 0)) = true then
      some (.inr (.inl ()))
    else
      some (.inl ⟨c3, (wI (g1.t5 + 1))⟩))))
  else
    some (.inr (.inr (⟨g1.t1⟩))))
noncomputable def laws_szDomainS (a0 : (List DomainT)) (a1 : Int) : Option Int :=
  (if (decide ((wI (a1 - ((a0.length : Nat) : Int))) < 0)) = true then
    some (-1)
  else
    ((loopF (laws_szDomainS_L1 a0) ⟨(wI (a1 - ((a0.length : Nat) : Int))), 0⟩).bind fun y4 =>
    match y4 with
    | .inl p5 =>
      some (-1)
    | .inr p6 =>
      some p6.t1))
noncomputable def laws_toDomain (a0 : DomainT) : Option DomainT :=
  some a0
structure laws_toDomainS_G1 where
  t4 : Int
  c0 : (List DomainT)
structure laws_toDomainS_P1_0 where
  c0 : (List DomainT)
noncomputable def laws_toDomainS_L1 (a0 : (List DomainT)) (g8 : laws_toDomainS_G1) : Option (laws_toDomainS_G1 ⊕ laws_toDomainS_P1_0) :=
  (if (decide (g8.t4 < ((a0.length : Nat) : Int))) = true then
    (guardO (0 ≤ g8.t4 ∧ g8.t4 < (a0.length : Int)) <|
    ((laws_toDomain (nth a0 g8.t4.toNat)).bind fun c10 =>
    (guardO (0 ≤ g8.t4 ∧ g8.t4 < ((g8.c0.length : Nat) : Int)) <|
    some (.inl ⟨(wI (g8.t4 + 1)), (g8.c0.set g8.t4.toNat c10)⟩))))
  else
    some (.inr (⟨g8.c0⟩)))
noncomputable def laws_toDomainS (a0 : (List DomainT)) : Option (List DomainT) :=
  (guardO (0 ≤ ((a0.length : Nat) : Int) ∧ ((a0.length : Nat) : Int) * 40 ≤ 281474976710656 ∧ ((a0.length : Nat) : Int) ≤ 9223372036854775807) <|
  ((loopF (laws_toDomainS_L1 a0) ⟨0, (List.replicate a0.length (⟨ByteArray.empty, 0, ByteArray.empty⟩ : DomainT))⟩).bind fun y11 =>
  some y11.c0))
structure spec_l1Name_G1 where
  t3 : Int
structure spec_l1Name_J14004 where
  t32 : Bool
noncomputable def spec_l1Name_L1 (a0 : ByteArray) (g14 : spec_l1Name_G1) : Option (spec_l1Name_G1 ⊕ (Unit ⊕ Unit)) :=
  (if (decide (g14.t3 < (a0.size : Int))) = true then
    (((guardO (0 ≤ g14.t3 ∧ g14.t3 < (a0.size : Int)) <|
      (if (decide ((bt a0 g14.t3) ≥ 97)) = true then
        (guardO (0 ≤ g14.t3 ∧ g14.t3 < (a0.size : Int)) <|
        (if (decide ((bt a0 g14.t3) ≤ 122)) = true then
          some (⟨false⟩ : spec_l1Name_J14004)
        else
          (guardO (0 ≤ g14.t3 ∧ g14.t3 < (a0.size : Int)) <|
          (if (decide ((bt a0 g14.t3) ≥ 48)) = true then
            (guardO (0 ≤ g14.t3 ∧ g14.t3 < (a0.size : Int)) <|
            some (⟨(!(decide ((bt a0 g14.t3) ≤ 57)))⟩ : spec_l1Name_J14004))
          else
            some (⟨true⟩ : spec_l1Name_J14004)))))
      else
        (guardO (0 ≤ g14.t3 ∧ g14.t3 < (a0.size : Int)) <|
        (if (decide ((bt a0 g14.t3) ≥ 48)) = true then
          (guardO (0 ≤ g14.t3 ∧ g14.t3 < (a0.size : Int)) <|
          some (⟨(!(decide ((bt a0 g14.t3) ≤ 57)))⟩ : spec_l1Name_J14004))
        else
          some (⟨true⟩ : spec_l1Name_J14004))))) : Option spec_l1Name_J14004).bind fun p16 =>
    (if p16.t32 = true then
      some (.inr (.inl ()))
    else
      some (.inl ⟨(wI (g14.t3 + 1))⟩)))
  else
    some (.inr (.inr ())))
noncomputable def spec_l1Name (a0 : ByteArray) : Option Bool :=
  ((loopF (spec_l1Name_L1 a0) ⟨0⟩).bind fun y17 =>
  match y17 with
  | .inl p18 =>
    some false
  | .inr p19 =>
    some (decide ((a0.size : Int) ≤ 12)))
noncomputable def spec_l13Version (a0 : Int) : Option Bool :=
  ((spec_l1In a0 0 1000000).bind fun c21 =>
  some c21)
structure spec_GoodDomains_G1 where
  t7 : Int
structure spec_GoodDomains_J14004 where
  t47 : Bool
noncomputable def spec_GoodDomains_L1 (a0 : (List DomainT)) (g13 : spec_GoodDomains_G1) : Option (spec_GoodDomains_G1 ⊕ (Unit ⊕ Unit)) :=
  (if (decide (g13.t7 < ((a0.length : Nat) : Int))) = true then
    (guardO (0 ≤ g13.t7 ∧ g13.t7 < (a0.length : Int)) <|
    ((((spec_l1Name ((nth a0 g13.t7.toNat).Name)).bind fun c24 =>
      (if (!c24) = true then
        some (⟨true⟩ : spec_GoodDomains_J14004)
      else
        (if (((nth a0 g13.t7.toNat).Name).toList == ByteArray.empty.toList) = true then
          some (⟨true⟩ : spec_GoodDomains_J14004)
        else
          ((spec_l13Version ((nth a0 g13.t7.toNat).Version)).bind fun c25 =>
          (if (!c25) = true then
            some (⟨true⟩ : spec_GoodDomains_J14004)
          else
            (if (decide ((((nth a0 g13.t7.toNat).Note).size : Int) > 20)) = true then
              some (⟨true⟩ : spec_GoodDomains_J14004)
            else
              (if (decide (g13.t7 > 0)) = true then
                (guardO (0 ≤ (wI (g13.t7 - 1)) ∧ (wI (g13.t7 - 1)) < (a0.length : Int)) <|
                some (⟨(!sLt ((nth a0 ((wI (g13.t7 - 1)).toNat)).Name) ((nth a0 g13.t7.toNat).Name))⟩ : spec_GoodDomains_J14004))
              else
                some (⟨false⟩ : spec_GoodDomains_J14004)))))))) : Option spec_GoodDomains_J14004).bind fun p26 =>
    (if p26.t47 = true then
      some (.inr (.inl ()))
    else
      some (.inl ⟨(wI (g13.t7 + 1))⟩))))
  else
    some (.inr (.inr ())))
noncomputable def spec_GoodDomains (a0 : (List DomainT)) : Option Bool :=
  ((loopF (spec_GoodDomains_L1 a0) ⟨0⟩).bind fun y27 =>
  match y27 with
  | .inl p28 =>
    some false
  | .inr p29 =>
    some (decide (((a0.length : Nat) : Int) ≤ 12)))
noncomputable def strings_Trim (a0 : ByteArray) (a1 : ByteArray) : Option ByteArray :=
  guardO (a0.size ≤ 9223372036854775807 ∧ a1.size < 4294967281 ∧ a1.data.toList.all (fun b => decide (b.toNat < 128)) = true) (some (trimB a0 a1))
noncomputable def impl_goodName (a0 : ByteArray) : Option Bool :=
  (if (decide ((a0.size : Int) ≤ 12)) = true then
    ((strings_Trim a0 (⟨#[97, 98, 99, 100, 101, 102, 103, 104, 105, 106, 107, 108, 109, 110, 111, 112, 113, 114, 115, 116, 117, 118, 119, 120, 121, 122, 48, 49, 50, 51, 52, 53, 54, 55, 56, 57]⟩ : ByteArray)).bind fun c33 =>
    some (c33.toList == ByteArray.empty.toList))
  else
    some false)
noncomputable def impl_isVersion (a0 : Int) : Option Bool :=
  ((impl_in a0 0 1000000).bind fun c35 =>
  some c35)
structure impl_GoodDomains_G1 where
  t10 : Int
structure impl_GoodDomains_J14006 where
  t50 : Bool
noncomputable def impl_GoodDomains_L1 (a0 : (List DomainT)) (g32 : impl_GoodDomains_G1) : Option (impl_GoodDomains_G1 ⊕ (Unit ⊕ Unit)) :=
  (if (decide (g32.t10 < ((a0.length : Nat) : Int))) = true then
    (guardO (0 ≤ g32.t10 ∧ g32.t10 < (a0.length : Int)) <|
    (((if (((nth a0 g32.t10.toNat).Name).toList == ByteArray.empty.toList) = true then
        some (⟨true⟩ : impl_GoodDomains_J14006)
      else
        ((impl_goodName ((nth a0 g32.t10.toNat).Name)).bind fun c38 =>
        (if (!c38) = true then
          some (⟨true⟩ : impl_GoodDomains_J14006)
        else
          ((impl_isVersion ((nth a0 g32.t10.toNat).Version)).bind fun c39 =>
          (if (!c39) = true then
            some (⟨true⟩ : impl_GoodDomains_J14006)
          else
            (if (decide ((((nth a0 g32.t10.toNat).Note).size : Int) > 20)) = true then
              some (⟨true⟩ : impl_GoodDomains_J14006)
            else
              (if (decide (g32.t10 > 0)) = true then
                (guardO (0 ≤ (wI (g32.t10 - 1)) ∧ (wI (g32.t10 - 1)) < (a0.length : Int)) <|
                some (⟨(!sLt ((nth a0 ((wI (g32.t10 - 1)).toNat)).Name) ((nth a0 g32.t10.toNat).Name))⟩ : impl_GoodDomains_J14006))
              else
                some (⟨false⟩ : impl_GoodDomains_J14006)))))))) : Option impl_GoodDomains_J14006).bind fun p40 =>
    (if p40.t50 = true then
      some (.inr (.inl ()))
    else
      some (.inl ⟨(wI (g32.t10 + 1))⟩))))
  else
    some (.inr (.inr ())))
noncomputable def impl_GoodDomains (a0 : (List DomainT)) : Option Bool :=
  (if (decide (((a0.length : Nat) : Int) > 12)) = true then
    some false
  else
    ((loopF (impl_GoodDomains_L1 a0) ⟨0⟩).bind fun y41 =>
    match y41 with
    | .inl p42 =>
      some false
    | .inr p43 =>
      some true))
noncomputable def laws_eqDomain (a0 : DomainT) (a1 : DomainT) : Option Bool :=
  (if (!(a0.Name.toList == a1.Name.toList)) = true then
    some false
  else
    (if (a0.Version != a1.Version) = true then
      some false
    else
      (if (!(a0.Note.toList == a1.Note.toList)) = true then
        some false
      else
        some true)))
structure laws_eqDomainS_G1 where
  t5 : Int
noncomputable def laws_eqDomainS_L1 (a0 : (List DomainT)) (a1 : (List DomainT)) (g46 : laws_eqDomainS_G1) : Option (laws_eqDomainS_G1 ⊕ (Unit ⊕ Unit)) :=
  (if (decide (g46.t5 < ((a0.length : Nat) : Int))) = true then
    (guardO (0 ≤ g46.t5 ∧ g46.t5 < (a0.length : Int)) <|
    (guardO (0 ≤ g46.t5 ∧ g46.t5 < (a1.length : Int)) <|
    ((laws_eqDomain (nth a0 g46.t5.toNat) (nth a1 g46.t5.toNat)).bind fun c48 =>
    (if (!c48) = true then
      some (.inr (.inl ()))
    else
      some (.inl ⟨(wI (g46.t5 + 1))⟩)))))
  else
    some (.inr (.inr ())))
noncomputable def laws_eqDomainS (a0 : (List DomainT)) (a1 : (List DomainT)) : Option Bool :=
  (if (((a0.length : Nat) : Int) != ((a1.length : Nat) : Int)) = true then
    some false
  else
    ((loopF (laws_eqDomainS_L1 a0 a1) ⟨0⟩).bind fun y49 =>
    match y49 with
    | .inl p50 =>
      some false
    | .inr p51 =>
      some true))
noncomputable def laws_FnExactGoodDomains (a0 : (List DomainT)) : Option Bool :=
  ((laws_szDomainS a0 1048576).bind fun c7 =>
  (if (decide (c7 < 0)) = true then
    some true
  else
    ((laws_toDomainS a0).bind fun c12 =>
    ((spec_GoodDomains c12).bind fun c30 =>
    ((laws_toDomainS a0).bind fun c31 =>
    ((impl_GoodDomains c31).bind fun c44 =>
    (if (!(c44 == c30)) = true then
      some false
    else
      ((laws_toDomainS a0).bind fun c45 =>
      ((laws_eqDomainS c31 c45).bind fun c52 =>
      (if (!c52) = true then
        some false
      else
        some true))))))))))
structure spec_LeaderOf_G1 where
  t13 : Int
structure spec_LeaderOf_P1_0 where
  t4 : Int
noncomputable def spec_LeaderOf_L1 (a0 : (List DomainT)) (a1 : ByteArray) (g56 : spec_LeaderOf_G1) : Option (spec_LeaderOf_G1 ⊕ (spec_LeaderOf_P1_0 ⊕ Unit)) :=
  (if (decide (g56.t13 < ((a0.length : Nat) : Int))) = true then
    (guardO (0 ≤ g56.t13 ∧ g56.t13 < (a0.length : Int)) <|
    (if (((nth a0 g56.t13.toNat).Name).toList == a1.toList) = true then
      some (.inr (.inl (⟨(((nth a0 g56.t13.toNat).Version).tmod 10)⟩)))
    else
      some (.inl ⟨(wI (g56.t13 + 1))⟩)))
  else
    some (.inr (.inr ())))
noncomputable def spec_LeaderOf (a0 : (List DomainT)) (a1 : ByteArray) : Option (Int × Bool) :=
  ((spec_GoodDomains a0).bind fun c55 =>
  (if (!c55) = true then
    some (0, false)
  else
    ((loopF (spec_LeaderOf_L1 a0 a1) ⟨0⟩).bind fun y57 =>
    match y57 with
    | .inl p58 =>
      some (p58.t4, true)
    | .inr p59 =>
      some (0, false))))
noncomputable def impl_domainAt_c1_r (a0 : DomainT) (a1 : ByteArray) : Option Bool :=
  some (a0.Name.toList == a1.toList)
structure slices_IndexFunc_impl_Domain_impl_domainAt_c1r_G1 where
  t8 : Int
structure slices_IndexFunc_impl_Domain_impl_domainAt_c1r_P1_0 where
  t4 : Int
noncomputable def slices_IndexFunc_impl_Domain_impl_domainAt_c1r_L1 (a0 : (List DomainT)) (a1 : ByteArray) (g62 : slices_IndexFunc_impl_Domain_impl_domainAt_c1r_G1) : Option (slices_IndexFunc_impl_Domain_impl_domainAt_c1r_G1 ⊕ (slices_IndexFunc_impl_Domain_impl_domainAt_c1r_P1_0 ⊕ Unit)) :=
  (if (decide (g62.t8 < ((a0.length : Nat) : Int))) = true then
    (guardO (0 ≤ g62.t8 ∧ g62.t8 < (a0.length : Int)) <|
    ((impl_domainAt_c1_r (nth a0 g62.t8.toNat) a1).bind fun c64 =>
    (if c64 = true then
      some (.inr (.inl (⟨g62.t8⟩)))
    else
      some (.inl ⟨(wI (g62.t8 + 1))⟩))))
  else
    some (.inr (.inr ())))
noncomputable def slices_IndexFunc_impl_Domain_impl_domainAt_c1r (a0 : (List DomainT)) (a1 : ByteArray) : Option Int :=
  ((loopF (slices_IndexFunc_impl_Domain_impl_domainAt_c1r_L1 a0 a1) ⟨0⟩).bind fun y65 =>
  match y65 with
  | .inl p66 =>
    some p66.t4
  | .inr p67 =>
    some (-1))
noncomputable def impl_domainAt (a0 : (List DomainT)) (a1 : ByteArray) : Option Int :=
  ((slices_IndexFunc_impl_Domain_impl_domainAt_c1r a0 a1).bind fun c68 =>
  some c68)
noncomputable def impl_RegionOf (a0 : Int) : Option (Int × Bool) :=
  ((impl_isVersion a0).bind fun c72 =>
  (if (!c72) = true then
    some (0, false)
  else
    some ((a0.tmod 10), true)))
structure impl_LeaderOf_J4002 where
  t16 : Bool
noncomputable def impl_LeaderOf (a0 : (List DomainT)) (a1 : ByteArray) : Option (Int × Bool) :=
  ((impl_domainAt a0 a1).bind fun c69 =>
  ((((impl_GoodDomains a0).bind fun c70 =>
    (if (!c70) = true then
      some (⟨true⟩ : impl_LeaderOf_J4002)
    else
      some (⟨(decide (c69 < 0))⟩ : impl_LeaderOf_J4002))) : Option impl_LeaderOf_J4002).bind fun p71 =>
  (if p71.t16 = true then
    some (0, false)
  else
    (guardO (0 ≤ c69 ∧ c69 < (a0.length : Int)) <|
    ((impl_RegionOf ((nth a0 c69.toNat).Version)).bind fun c73 =>
    some (c73.1, c73.2))))))
structure laws_FnExactLeaderOf_J4010 where
  t41 : Bool
noncomputable def laws_FnExactLeaderOf (a0 : (List DomainT)) (a1 : ByteArray) : Option Bool :=
  (if (decide ((a1.size : Int) > 1048576)) = true then
    some true
  else
    ((laws_szDomainS a0 1048576).bind fun c53 =>
    (if (decide (c53 < 0)) = true then
      some true
    else
      ((laws_toDomainS a0).bind fun c54 =>
      ((spec_LeaderOf c54 a1).bind fun c60 =>
      ((laws_toDomainS a0).bind fun c61 =>
      ((impl_LeaderOf c61 a1).bind fun c74 =>
      (((if (c74.1 != c60.1) = true then
          some (⟨true⟩ : laws_FnExactLeaderOf_J4010)
        else
          some (⟨(!(c74.2 == c60.2))⟩ : laws_FnExactLeaderOf_J4010)) : Option laws_FnExactLeaderOf_J4010).bind fun p75 =>
      (if p75.t41 = true then
        some false
      else
        ((laws_toDomainS a0).bind fun c76 =>
        ((laws_eqDomainS c61 c76).bind fun c77 =>
        (if (!c77) = true then
          some false
        else
          some true))))))))))))
noncomputable def spec_l13Less (a0 : DomainT) (a1 : DomainT) : Option Bool :=
  (if (decide (a0.Version < a1.Version)) = true then
    some true
  else
    (if (a0.Version == a1.Version) = true then
      some (sLt a0.Note a1.Note)
    else
      some false))
structure spec_KnowsAll_J4001 where
  t18 : Bool
structure spec_KnowsAll_G1 where
  t21 : Int
structure spec_KnowsAll_G2 where
  t8 : Bool
  t27 : Int
structure spec_KnowsAll_P2_0 where
  t8 : Bool
noncomputable def spec_KnowsAll_L2 (a1 : (List DomainT)) (a0 : (List DomainT)) (g85 : spec_KnowsAll_G1) (g90 : spec_KnowsAll_G2) : Option (spec_KnowsAll_G2 ⊕ spec_KnowsAll_P2_0) :=
  (if (decide (g90.t27 < ((a1.length : Nat) : Int))) = true then
    (guardO (0 ≤ g90.t27 ∧ g90.t27 < (a1.length : Int)) <|
    (if g90.t8 = true then
      some (.inl ⟨true, (wI (g90.t27 + 1))⟩)
    else
      (if (((nth a1 g90.t27.toNat).Name).toList == ((nth a0 g85.t21.toNat).Name).toList) = true then
        ((spec_l13Less (nth a1 g90.t27.toNat) (nth a0 g85.t21.toNat)).bind fun c92 =>
        some (.inl ⟨(!c92), (wI (g90.t27 + 1))⟩))
      else
        some (.inl ⟨false, (wI (g90.t27 + 1))⟩))))
  else
    some (.inr (⟨g90.t8⟩)))
noncomputable def spec_KnowsAll_L1 (a0 : (List DomainT)) (a1 : (List DomainT)) (g85 : spec_KnowsAll_G1) : Option (spec_KnowsAll_G1 ⊕ (Unit ⊕ Unit)) :=
  (if (decide (g85.t21 < ((a0.length : Nat) : Int))) = true then
    (guardO (0 ≤ g85.t21 ∧ g85.t21 < (a0.length : Int)) <|
    ((loopF (spec_KnowsAll_L2 a1 a0 g85) ⟨false, 0⟩).bind fun y93 =>
    (if (!y93.t8) = true then
      some (.inr (.inl ()))
    else
      some (.inl ⟨(wI (g85.t21 + 1))⟩))))
  else
    some (.inr (.inr ())))
noncomputable def spec_KnowsAll (a0 : (List DomainT)) (a1 : (List DomainT)) : Option (Bool × Bool) :=
  ((((spec_GoodDomains a0).bind fun c82 =>
    (if (!c82) = true then
      some (⟨true⟩ : spec_KnowsAll_J4001)
    else
      ((spec_GoodDomains a1).bind fun c83 =>
      some (⟨(!c83)⟩ : spec_KnowsAll_J4001)))) : Option spec_KnowsAll_J4001).bind fun p84 =>
  (if p84.t18 = true then
    some (false, false)
  else
    ((loopF (spec_KnowsAll_L1 a0 a1) ⟨0⟩).bind fun y94 =>
    match y94 with
    | .inl p95 =>
      some (false, true)
    | .inr p96 =>
      some (true, true))))
noncomputable def cmp_isNaN_int (a0 : Int) : Option Bool :=
  some (a0 != a0)
noncomputable def cmp_Compare_int (a0 : Int) (a1 : Int) : Option Int :=
  ((cmp_isNaN_int a0).bind fun c105 =>
  ((cmp_isNaN_int a1).bind fun c106 =>
  (if c105 = true then
    (if c106 = true then
      some 0
    else
      some (-1))
  else
    (if c106 = true then
      some 1
    else
      (if (decide (a0 < a1)) = true then
        some (-1)
      else
        (if (decide (a0 > a1)) = true then
          some 1
        else
          some 0))))))
noncomputable def cmp_isNaN_string (a0 : ByteArray) : Option Bool :=
  some (!(a0.toList == a0.toList))
noncomputable def cmp_Compare_string (a0 : ByteArray) (a1 : ByteArray) : Option Int :=
  ((cmp_isNaN_string a0).bind fun c108 =>
  ((cmp_isNaN_string a1).bind fun c109 =>
  (if c108 = true then
    (if c109 = true then
      some 0
    else
      some (-1))
  else
    (if c109 = true then
      some 1
    else
      (if (sLt a0 a1) = true then
        some (-1)
      else
        (if (!(sLt a0 a1 || a0.toList == a1.toList)) = true then
          some 1
        else
          some 0))))))
structure cmp_Or_int_G1 where
  t8 : Int
structure cmp_Or_int_P1_0 where
  t2 : Int
noncomputable def cmp_Or_int_L1 (a0 : (List Int)) (g111 : cmp_Or_int_G1) : Option (cmp_Or_int_G1 ⊕ (cmp_Or_int_P1_0 ⊕ Unit)) :=
  (if (decide (g111.t8 < ((a0.length : Nat) : Int))) = true then
    (guardO (0 ≤ g111.t8 ∧ g111.t8 < (a0.length : Int)) <|
    (if ((nth a0 g111.t8.toNat) != 0) = true then
      some (.inr (.inl (⟨(nth a0 g111.t8.toNat)⟩)))
    else
      some (.inl ⟨(wI (g111.t8 + 1))⟩)))
  else
    some (.inr (.inr ())))
noncomputable def cmp_Or_int (a0 : (List Int)) : Option Int :=
  ((loopF (cmp_Or_int_L1 a0) ⟨0⟩).bind fun y112 =>
  match y112 with
  | .inl p113 =>
    some p113.t2
  | .inr p114 =>
    some 0)
noncomputable def impl_greater (a0 : DomainT) (a1 : DomainT) : Option Int :=
  ((cmp_Compare_int a0.Version a1.Version).bind fun c107 =>
  ((cmp_Compare_string a0.Note a1.Note).bind fun c110 =>
  ((cmp_Or_int ([c107, c110])).bind fun c115 =>
  some c115)))
noncomputable def impl_KnowsAll_c1_r (a0 : DomainT) (a1 : (List DomainT)) : Option Bool :=
  ((impl_domainAt a1 a0.Name).bind fun c104 =>
  (if (decide (c104 < 0)) = true then
    some true
  else
    (guardO (0 ≤ c104 ∧ c104 < (a1.length : Int)) <|
    ((impl_greater (nth a1 c104.toNat) a0).bind fun c116 =>
    some (decide (c116 < 0))))))
structure slices_IndexFunc_impl_Domain_impl_KnowsAll_c1r_G1 where
  t8 : Int
structure slices_IndexFunc_impl_Domain_impl_KnowsAll_c1r_P1_0 where
  t4 : Int
noncomputable def slices_IndexFunc_impl_Domain_impl_KnowsAll_c1r_L1 (a0 : (List DomainT)) (a1 : (List DomainT)) (g103 : slices_IndexFunc_impl_Domain_impl_KnowsAll_c1r_G1) : Option (slices_IndexFunc_impl_Domain_impl_KnowsAll_c1r_G1 ⊕ (slices_IndexFunc_impl_Domain_impl_KnowsAll_c1r_P1_0 ⊕ Unit)) :=
  (if (decide (g103.t8 < ((a0.length : Nat) : Int))) = true then
    (guardO (0 ≤ g103.t8 ∧ g103.t8 < (a0.length : Int)) <|
    ((impl_KnowsAll_c1_r (nth a0 g103.t8.toNat) a1).bind fun c118 =>
    (if c118 = true then
      some (.inr (.inl (⟨g103.t8⟩)))
    else
      some (.inl ⟨(wI (g103.t8 + 1))⟩))))
  else
    some (.inr (.inr ())))
noncomputable def slices_IndexFunc_impl_Domain_impl_KnowsAll_c1r (a0 : (List DomainT)) (a1 : (List DomainT)) : Option Int :=
  ((loopF (slices_IndexFunc_impl_Domain_impl_KnowsAll_c1r_L1 a0 a1) ⟨0⟩).bind fun y119 =>
  match y119 with
  | .inl p120 =>
    some p120.t4
  | .inr p121 =>
    some (-1))
noncomputable def slices_ContainsFunc_impl_Domain_impl_KnowsAll_c1r (a0 : (List DomainT)) (a1 : (List DomainT)) : Option Bool :=
  ((slices_IndexFunc_impl_Domain_impl_KnowsAll_c1r a0 a1).bind fun c122 =>
  some (decide (c122 ≥ 0)))
structure impl_KnowsAll_J4001 where
  t13 : Bool
noncomputable def impl_KnowsAll (a0 : (List DomainT)) (a1 : (List DomainT)) : Option (Bool × Bool) :=
  ((((impl_GoodDomains a0).bind fun c100 =>
    (if (!c100) = true then
      some (⟨true⟩ : impl_KnowsAll_J4001)
    else
      ((impl_GoodDomains a1).bind fun c101 =>
      some (⟨(!c101)⟩ : impl_KnowsAll_J4001)))) : Option impl_KnowsAll_J4001).bind fun p102 =>
  (if p102.t13 = true then
    some (false, false)
  else
    ((slices_ContainsFunc_impl_Domain_impl_KnowsAll_c1r a0 a1).bind fun c123 =>
    some ((!c123), true))))
structure laws_FnExactKnowsAll_J4012 where
  t47 : Bool
noncomputable def laws_FnExactKnowsAll (a0 : (List DomainT)) (a1 : (List DomainT)) : Option Bool :=
  ((laws_szDomainS a0 1048576).bind fun c78 =>
  (if (decide (c78 < 0)) = true then
    some true
  else
    ((laws_szDomainS a1 c78).bind fun c79 =>
    (if (decide (c79 < 0)) = true then
      some true
    else
      ((laws_toDomainS a0).bind fun c80 =>
      ((laws_toDomainS a1).bind fun c81 =>
      ((spec_KnowsAll c80 c81).bind fun c97 =>
      ((laws_toDomainS a0).bind fun c98 =>
      ((laws_toDomainS a1).bind fun c99 =>
      ((impl_KnowsAll c98 c99).bind fun c124 =>
      (((if (!(c124.1 == c97.1)) = true then
          some (⟨true⟩ : laws_FnExactKnowsAll_J4012)
        else
          some (⟨(!(c124.2 == c97.2))⟩ : laws_FnExactKnowsAll_J4012)) : Option laws_FnExactKnowsAll_J4012).bind fun p125 =>
      (if p125.t47 = true then
        some false
      else
        ((laws_toDomainS a0).bind fun c126 =>
        ((laws_eqDomainS c98 c126).bind fun c127 =>
        (if (!c127) = true then
          some false
        else
          ((laws_toDomainS a1).bind fun c128 =>
          ((laws_eqDomainS c99 c128).bind fun c129 =>
          (if (!c129) = true then
            some false
          else
            some true))))))))))))))))))
noncomputable def spec_l13Next (a0 : Int) (a1 : Int) : Option Int :=
  (if (decide ((wI ((wI (a0 - (a0.tmod 10))) + a1)) ≤ a0)) = true then
    some (wI ((wI ((wI (a0 - (a0.tmod 10))) + a1)) + 10))
  else
    some (wI ((wI (a0 - (a0.tmod 10))) + a1)))
structure spec_NextVersion_J4001 where
  t14 : Bool
noncomputable def spec_NextVersion (a0 : Int) (a1 : Int) : Option (Int × Bool) :=
  ((((spec_l13Version a0).bind fun c134 =>
    (if (!c134) = true then
      some (⟨true⟩ : spec_NextVersion_J4001)
    else
      ((spec_l1In a1 0 9).bind fun c135 =>
      some (⟨(!c135)⟩ : spec_NextVersion_J4001)))) : Option spec_NextVersion_J4001).bind fun p136 =>
  (if p136.t14 = true then
    some (0, false)
  else
    ((spec_l13Next a0 a1).bind fun c137 =>
    ((spec_l13Version c137).bind fun c138 =>
    (if (!c138) = true then
      some (0, false)
    else
      some (c137, true))))))
structure spec_FailOver_G1 where
  t21 : Int
structure spec_FailOver_P1_0 where
  t7 : Bool
  c0 : (List DomainT)
noncomputable def spec_FailOver_L1 (a0 : (List DomainT)) (a1 : ByteArray) (a2 : Int) (g133 : spec_FailOver_G1) : Option (spec_FailOver_G1 ⊕ (spec_FailOver_P1_0 ⊕ Unit)) :=
  (if (decide (g133.t21 < ((a0.length : Nat) : Int))) = true then
    (guardO (0 ≤ g133.t21 ∧ g133.t21 < ((a0.length : Nat) : Int)) <|
    (if (((nth (([]) ++ a0) g133.t21.toNat).Name).toList == a1.toList) = true then
      ((spec_NextVersion ((nth (([]) ++ a0) g133.t21.toNat).Version) a2).bind fun c140 =>
      (if (!c140.2) = true then
        some (.inr (.inl (⟨false, []⟩)))
      else
        (guardO (0 ≤ g133.t21 ∧ g133.t21 < ((a0.length : Nat) : Int)) <|
        some (.inr (.inl (⟨true, ((([]) ++ a0).set g133.t21.toNat (⟨(nth (([]) ++ a0) g133.t21.toNat).Name, c140.1, (nth (([]) ++ a0) g133.t21.toNat).Note⟩ : DomainT))⟩))))))
    else
      some (.inl ⟨(wI (g133.t21 + 1))⟩)))
  else
    some (.inr (.inr ())))
noncomputable def spec_FailOver (a0 : (List DomainT)) (a1 : ByteArray) (a2 : Int) : Option ((List DomainT) × Bool) :=
  ((spec_GoodDomains a0).bind fun c132 =>
  (if (!c132) = true then
    some ([], false)
  else
    (guardO (a0.length * 40 ≤ 140737488355328) <|
    ((loopF (spec_FailOver_L1 a0 a1 a2) ⟨0⟩).bind fun y141 =>
    match y141 with
    | .inl p142 =>
      some (p142.c0, p142.t7)
    | .inr p143 =>
      some ([], false)))))
noncomputable def impl_isRegion (a0 : Int) : Option Bool :=
  ((impl_in a0 0 9).bind fun c150 =>
  some c150)
structure impl_NextVersion_J4001 where
  t14 : Bool
structure impl_NextVersion_J2023 where
  t6 : Int
noncomputable def impl_NextVersion (a0 : Int) (a1 : Int) : Option (Int × Bool) :=
  ((((impl_isVersion a0).bind fun c149 =>
    (if (!c149) = true then
      some (⟨true⟩ : impl_NextVersion_J4001)
    else
      ((impl_isRegion a1).bind fun c151 =>
      some (⟨(!c151)⟩ : impl_NextVersion_J4001)))) : Option impl_NextVersion_J4001).bind fun p152 =>
  (if p152.t14 = true then
    some (0, false)
  else
    (((if (decide ((wI ((wI (a0 - (a0.tmod 10))) + a1)) ≤ a0)) = true then
        some (⟨(wI ((wI ((wI (a0 - (a0.tmod 10))) + a1)) + 10))⟩ : impl_NextVersion_J2023)
      else
        some (⟨(wI ((wI (a0 - (a0.tmod 10))) + a1))⟩ : impl_NextVersion_J2023)) : Option impl_NextVersion_J2023).bind fun p153 =>
    ((impl_isVersion p153.t6).bind fun c154 =>
    (if (!c154) = true then
      some (0, false)
    else
      some (p153.t6, true))))))
noncomputable def slices_Clone_impl_Domain (a0 : (List DomainT)) : Option (List DomainT) :=
  guardO (a0.length * 40 ≤ 140737488355328) (some a0)
structure impl_FailOver_J4002 where
  t21 : Bool
noncomputable def impl_FailOver (a0 : (List DomainT)) (a1 : ByteArray) (a2 : Int) : Option ((List DomainT) × Bool) :=
  ((impl_domainAt a0 a1).bind fun c146 =>
  ((((impl_GoodDomains a0).bind fun c147 =>
    (if (!c147) = true then
      some (⟨true⟩ : impl_FailOver_J4002)
    else
      some (⟨(decide (c146 < 0))⟩ : impl_FailOver_J4002))) : Option impl_FailOver_J4002).bind fun p148 =>
  (if p148.t21 = true then
    some ([], false)
  else
    (guardO (0 ≤ c146 ∧ c146 < (a0.length : Int)) <|
    ((impl_NextVersion ((nth a0 c146.toNat).Version) a2).bind fun c155 =>
    (if (!c155.2) = true then
      some ([], false)
    else
      ((slices_Clone_impl_Domain a0).bind fun c156 =>
      (guardO (0 ≤ c146 ∧ c146 < ((c156.length : Nat) : Int)) <|
      some ((c156.set c146.toNat (⟨(nth c156 c146.toNat).Name, c155.1, (nth c156 c146.toNat).Note⟩ : DomainT)), true)))))))))
structure laws_markDomainS_w_G1 where
  t1 : Int
  t5 : Int
  c0 : (List DomainT)
structure laws_markDomainS_w_P1_0 where
  t1 : Int
  c0 : (List DomainT)
noncomputable def laws_markDomainS_w_L1 (g166 : laws_markDomainS_w_G1) : Option (laws_markDomainS_w_G1 ⊕ laws_markDomainS_w_P1_0) :=
  (if (decide (g166.t5 < ((g166.c0.length : Nat) : Int))) = true then
    ((laws_markText g166.t1).bind fun c169 =>
    (guardO (0 ≤ g166.t5 ∧ g166.t5 < ((g166.c0.length : Nat) : Int)) <|
    (guardO (0 ≤ g166.t5 ∧ g166.t5 < ((g166.c0.length : Nat) : Int)) <|
    ((laws_markText (wI ((wI (g166.t1 + 1)) + 1))).bind fun c170 =>
    (guardO (0 ≤ g166.t5 ∧ g166.t5 < ((g166.c0.length : Nat) : Int)) <|
    some (.inl ⟨(wI ((wI ((wI (g166.t1 + 1)) + 1)) + 1)), (wI (g166.t5 + 1)), (((g166.c0.set g166.t5.toNat (⟨c169, (nth g166.c0 g166.t5.toNat).Version, (nth g166.c0 g166.t5.toNat).Note⟩ : DomainT)).set g166.t5.toNat (⟨(nth (g166.c0.set g166.t5.toNat (⟨c169, (nth g166.c0 g166.t5.toNat).Version, (nth g166.c0 g166.t5.toNat).Note⟩ : DomainT)) g166.t5.toNat).Name, (wI (g166.t1 + 1)), (nth (g166.c0.set g166.t5.toNat (⟨c169, (nth g166.c0 g166.t5.toNat).Version, (nth g166.c0 g166.t5.toNat).Note⟩ : DomainT)) g166.t5.toNat).Note⟩ : DomainT)).set g166.t5.toNat (⟨(nth ((g166.c0.set g166.t5.toNat (⟨c169, (nth g166.c0 g166.t5.toNat).Version, (nth g166.c0 g166.t5.toNat).Note⟩ : DomainT)).set g166.t5.toNat (⟨(nth (g166.c0.set g166.t5.toNat (⟨c169, (nth g166.c0 g166.t5.toNat).Version, (nth g166.c0 g166.t5.toNat).Note⟩ : DomainT)) g166.t5.toNat).Name, (wI (g166.t1 + 1)), (nth (g166.c0.set g166.t5.toNat (⟨c169, (nth g166.c0 g166.t5.toNat).Version, (nth g166.c0 g166.t5.toNat).Note⟩ : DomainT)) g166.t5.toNat).Note⟩ : DomainT)) g166.t5.toNat).Name, (nth ((g166.c0.set g166.t5.toNat (⟨c169, (nth g166.c0 g166.t5.toNat).Version, (nth g166.c0 g166.t5.toNat).Note⟩ : DomainT)).set g166.t5.toNat (⟨(nth (g166.c0.set g166.t5.toNat (⟨c169, (nth g166.c0 g166.t5.toNat).Version, (nth g166.c0 g166.t5.toNat).Note⟩ : DomainT)) g166.t5.toNat).Name, (wI (g166.t1 + 1)), (nth (g166.c0.set g166.t5.toNat (⟨c169, (nth g166.c0 g166.t5.toNat).Version, (nth g166.c0 g166.t5.toNat).Note⟩ : DomainT)) g166.t5.toNat).Note⟩ : DomainT)) g166.t5.toNat).Version, c170⟩ : DomainT))⟩))))))
  else
    some (.inr (⟨g166.t1, g166.c0⟩)))
noncomputable def laws_markDomainS_w (a0 : (List DomainT)) (a1 : Int) : Option (Int × (List DomainT)) :=
  ((loopF (laws_markDomainS_w_L1) ⟨a1, 0, a0⟩).bind fun y171 =>
  some (y171.t1, y171.c0))
structure laws_heldDomainS_G1 where
  t1 : Int
  t5 : Int
structure laws_heldDomainS_P1_1 where
  t1 : Int
noncomputable def laws_heldDomainS_L1 (a0 : (List DomainT)) (g176 : laws_heldDomainS_G1) : Option (laws_heldDomainS_G1 ⊕ (Unit ⊕ laws_heldDomainS_P1_1)) :=
  (if (decide (g176.t5 < ((a0.length : Nat) : Int))) = true then
    (guardO (0 ≤ g176.t5 ∧ g176.t5 < (a0.length : Int)) <|
    ((laws_markText g176.t1).bind fun c179 =>
    (if (!(((nth a0 g176.t5.toNat).Name).toList == c179.toList)) = true then
      some (.inr (.inl ()))
    else
      (guardO (0 ≤ g176.t5 ∧ g176.t5 < (a0.length : Int)) <|
      (if (((nth a0 g176.t5.toNat).Version) != (wI (g176.t1 + 1))) = true then
        some (.inr (.inl ()))
      else
        (guardO (0 ≤ g176.t5 ∧ g176.t5 < (a0.length : Int)) <|
        ((laws_markText (wI ((wI (g176.t1 + 1)) + 1))).bind fun c180 =>
        (if (!(((nth a0 g176.t5.toNat).Note).toList == c180.toList)) = true then
          some (.inr (.inl ()))
        else
          some (.inl ⟨(wI ((wI ((wI (g176.t1 + 1)) + 1)) + 1)), (wI (g176.t5 + 1))⟩)))))))))
  else
    some (.inr (.inr (⟨g176.t1⟩))))
noncomputable def laws_heldDomainS (a0 : (List DomainT)) (a1 : Int) : Option Int :=
  ((loopF (laws_heldDomainS_L1 a0) ⟨a1, 0⟩).bind fun y181 =>
  match y181 with
  | .inl p182 =>
    some (-1)
  | .inr p183 =>
    some p183.t1)
structure laws_FnExactFailOver_J4010 where
  t51 : Bool
structure laws_FnExactFailOver_J4016 where
  t72 : Bool
structure laws_FnExactFailOver_J4027 where
  t100 : Bool
noncomputable def laws_FnExactFailOver (a0 : (List DomainT)) (a1 : ByteArray) (a2 : Int) : Option Bool :=
  (if (decide ((a1.size : Int) > 1048576)) = true then
    some true
  else
    ((laws_szDomainS a0 1048576).bind fun c130 =>
    (if (decide (c130 < 0)) = true then
      some true
    else
      ((laws_toDomainS a0).bind fun c131 =>
      ((spec_FailOver c131 a1 a2).bind fun c144 =>
      ((laws_toDomainS a0).bind fun c145 =>
      ((impl_FailOver c145 a1 a2).bind fun c157 =>
      ((((laws_eqDomainS c157.1 c144.1).bind fun c158 =>
        (if (!c158) = true then
          some (⟨true⟩ : laws_FnExactFailOver_J4010)
        else
          some (⟨(!(c157.2 == c144.2))⟩ : laws_FnExactFailOver_J4010))) : Option laws_FnExactFailOver_J4010).bind fun p159 =>
      (if p159.t51 = true then
        some false
      else
        ((laws_toDomainS a0).bind fun c160 =>
        ((laws_eqDomainS c145 c160).bind fun c161 =>
        (if (!c161) = true then
          some false
        else
          ((laws_markDomainS_w c145 1).bind fun c172 =>
          (guardO (c172.2.length = c145.length) <|
          (((if (decide (c172.1 < 0)) = true then
              some (⟨true⟩ : laws_FnExactFailOver_J4016)
            else
              ((laws_eqDomainS c157.1 c144.1).bind fun c173 =>
              (if (!c173) = true then
                some (⟨true⟩ : laws_FnExactFailOver_J4016)
              else
                some (⟨(!(c157.2 == c144.2))⟩ : laws_FnExactFailOver_J4016)))) : Option laws_FnExactFailOver_J4016).bind fun p174 =>
          (if p174.t72 = true then
            some false
          else
            ((laws_markDomainS_w c157.1 1).bind fun c175 =>
            (guardO (c175.2.length = c157.1.length) <|
            ((laws_heldDomainS c175.2 1).bind fun c184 =>
            (if (decide (c184 < 0)) = true then
              some false
            else
              (if (c184 != c175.1) = true then
                some false
              else
                ((laws_toDomainS a0).bind fun c185 =>
                ((impl_FailOver c185 a1 a2).bind fun c186 =>
                ((((laws_eqDomainS c186.1 c144.1).bind fun c187 =>
                  (if (!c187) = true then
                    some (⟨true⟩ : laws_FnExactFailOver_J4027)
                  else
                    some (⟨(!(c186.2 == c144.2))⟩ : laws_FnExactFailOver_J4027))) : Option laws_FnExactFailOver_J4027).bind fun p188 =>
                (if p188.t100 = true then
                  some false
                else
                  ((laws_heldDomainS c175.2 1).bind fun c189 =>
                  (if (decide (c189 < 0)) = true then
                    some false
                  else
                    (if (c189 != c175.1) = true then
                      some false
                    else
                      some true))))))))))))))))))))))))))))
end Go.TL

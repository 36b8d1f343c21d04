import Derived.Test.YtjkeoippmlmfbaaGreatDoorG21PlR3M
import Derived.Test.YtjkeoippmlmfbaaGreatDoorG19PlTrim
import Derived.Test.YtjkeoippmlmfbaaGreatDoorG29PpOrd
set_option linter.unusedSimpArgs false
set_option linter.unusedVariables false
namespace Go.TL
structure spec_l1Cur_grown_o_F_J2015 where
  t1 : (List EventT)
structure spec_l1Cur_grown_o_F_J2033 where
  t8 : Int
  b0_0 : (List Int)
  b0_1 : Int
  b0_2 : Int
structure spec_l1Cur_grown_o_F_G1 where
  t8 : Int
  t9 : Int
  b0_0 : (List Int)
  b0_1 : Int
  b0_2 : Int
  c1 : (List EventT)
  b2_0 : Int
  b2_1 : Int
  b2_2 : Bool
  b2_3 : Int
  b2_4 : (List ByteArray)
  b2_5 : (List ByteArray)
structure spec_l1Cur_grown_o_F_P1_0 where
  b0_0 : (List Int)
  b0_1 : Int
  b0_2 : Int
  c1 : (List EventT)
structure spec_l1Cur_grown_o_F_J12062 where
  b3_2 : Int
noncomputable def spec_l1Cur_grown_o_F_L1 (g91 : spec_l1Cur_grown_o_F_G1) : Option (spec_l1Cur_grown_o_F_G1 ⊕ spec_l1Cur_grown_o_F_P1_0) :=
  (if (decide (g91.t9 > 0)) = true then
    ((spec_l1Cur_among_ow (⟨g91.b0_0,g91.b0_1,g91.b0_2⟩ : l1CurT) ([2,3,4])).bind fun c100 =>
    ((spec_l1Cur_of_ow c100.2 ([(⟨#[97]⟩ : ByteArray),(⟨#[98]⟩ : ByteArray),(⟨#[99]⟩ : ByteArray)])).bind fun c101 =>
    (((if (g91.b2_0 == 0) = true then
        some (⟨1⟩ : spec_l1Cur_grown_o_F_J12062)
      else
        some (⟨c100.1⟩ : spec_l1Cur_grown_o_F_J12062)) : Option spec_l1Cur_grown_o_F_J12062).bind fun p102 =>
    ((spec_l12Apply (⟨g91.b2_0,g91.b2_1,g91.b2_2,g91.b2_3,g91.b2_4,g91.b2_5⟩ : StateT) (⟨g91.b2_1,g91.t8,p102.b3_2,c101.1⟩ : EventT)).bind fun c103 =>
    (if c103.2 = true then
      (guardO ((g91.c1.length + 1) * 40 ≤ 140737488355328) <|
      ((spec_l1Cur_pick_o c101.2 2).bind fun c104 =>
      some (.inl ⟨(wI (g91.t8 + c104.1)),(wI (g91.t9 - 1)),c104.2.code,c104.2.at_,c104.2.seed,(g91.c1 ++ ([(⟨g91.b2_1,g91.t8,p102.b3_2,c101.1⟩ : EventT)])),c103.1.Status,c103.1.Next,c103.1.Cancel,c103.1.Done,c103.1.Signals,c103.1.Timers⟩)))
    else
      ((spec_l1Cur_pick_o c101.2 2).bind fun c105 =>
      some (.inl ⟨(wI (g91.t8 + c105.1)),(wI (g91.t9 - 1)),c105.2.code,c105.2.at_,c105.2.seed,g91.c1,g91.b2_0,g91.b2_1,g91.b2_2,g91.b2_3,g91.b2_4,g91.b2_5⟩)))))))
  else
    some (.inr (⟨g91.b0_0,g91.b0_1,g91.b0_2,g91.c1⟩)))
noncomputable def spec_l1Cur_grown_o_F (a0 : l1CurT) (a1 : (List EventT)) : Option ((List EventT) × l1CurT) :=
  ((((spec_IsHistory a1).bind fun c72 =>
    (if (!c72) = true then
      some (⟨[]⟩ : spec_l1Cur_grown_o_F_J2015)
    else
      some (⟨a1⟩ : spec_l1Cur_grown_o_F_J2015))) : Option spec_l1Cur_grown_o_F_J2015).bind fun p73 =>
  ((spec_l1Cur_pick_o a0 (wI (((p73.t1.length : Nat) : Int) + 1))).bind fun c77 =>
  (guardO (0 ≤ c77.1 ∧ c77.1 ≤ (p73.t1.length : Int)) <|
  ((spec_l15OwnEvents (p73.t1.take c77.1.toNat)).bind fun c78 =>
  ((spec_l12Fold_w c78).bind fun c86 =>
  ((spec_l1Cur_pick_o c77.2 9).bind fun c87 =>
  (((if (decide (((c78.length : Nat) : Int) > 0)) = true then
      (guardO (0 ≤ (wI (((c78.length : Nat) : Int) - 1)) ∧ (wI (((c78.length : Nat) : Int) - 1)) < ((c78.length : Nat) : Int)) <|
      ((spec_l1Cur_pick_o c87.2 3).bind fun c88 =>
      some (⟨(wI (((nth c78 ((wI (((c78.length : Nat) : Int) - 1)).toNat)).Version) + c88.1)),c88.2.code,c88.2.at_,c88.2.seed⟩ : spec_l1Cur_grown_o_F_J2033)))
    else
      some (⟨c87.1,c87.2.code,c87.2.at_,c87.2.seed⟩ : spec_l1Cur_grown_o_F_J2033)) : Option spec_l1Cur_grown_o_F_J2033).bind fun p89 =>
  ((spec_l1Cur_pick_o (⟨p89.b0_0,p89.b0_1,p89.b0_2⟩ : l1CurT) 4).bind fun c90 =>
  ((loopF (spec_l1Cur_grown_o_F_L1) ⟨p89.t8,c90.1,c90.2.code,c90.2.at_,c90.2.seed,c78,c86.1.Status,c86.1.Next,c86.1.Cancel,c86.1.Done,c86.1.Signals,c86.1.Timers⟩).bind fun y106 =>
  some (y106.c1,(⟨y106.b0_0,y106.b0_1,y106.b0_2⟩ : l1CurT)))))))))))
structure spec_l1Cur_stem_o_F_G1 where
  t3 : (List EventT)
  t4 : Int
  b0_0 : (List Int)
  b0_1 : Int
  b0_2 : Int
structure spec_l1Cur_stem_o_F_P1_0 where
  t3 : (List EventT)
  b0_0 : (List Int)
  b0_1 : Int
  b0_2 : Int
noncomputable def spec_l1Cur_stem_o_F_L1 (g109 : spec_l1Cur_stem_o_F_G1) : Option (spec_l1Cur_stem_o_F_G1 ⊕ spec_l1Cur_stem_o_F_P1_0) :=
  (if (decide (g109.t4 > 0)) = true then
    ((spec_l1Cur_grown_o_F (⟨g109.b0_0,g109.b0_1,g109.b0_2⟩ : l1CurT) g109.t3).bind fun c111 =>
    (if (decide (((c111.1.length : Nat) : Int) ≥ ((g109.t3.length : Nat) : Int))) = true then
      some (.inl ⟨c111.1,(wI (g109.t4 - 1)),c111.2.code,c111.2.at_,c111.2.seed⟩)
    else
      some (.inl ⟨g109.t3,(wI (g109.t4 - 1)),c111.2.code,c111.2.at_,c111.2.seed⟩)))
  else
    some (.inr (⟨g109.t3,g109.b0_0,g109.b0_1,g109.b0_2⟩)))
noncomputable def spec_l1Cur_stem_o_F (a0 : l1CurT) : Option ((List EventT) × l1CurT) :=
  ((spec_l1Cur_grown_o_F a0 ([])).bind fun c107 =>
  ((spec_l1Cur_pick_o c107.2 3).bind fun c108 =>
  ((loopF (spec_l1Cur_stem_o_F_L1) ⟨c107.1,c108.1,c108.2.code,c108.2.at_,c108.2.seed⟩).bind fun y112 =>
  some (y112.t3,(⟨y112.b0_0,y112.b0_1,y112.b0_2⟩ : l1CurT)))))
structure spec_l15Add_G1 where
  t15 : Int
noncomputable def spec_l15Add_L1 (a0 : (List BranchT)) (a1 : (List EventT)) (g169 : spec_l15Add_G1) : Option (spec_l15Add_G1 ⊕ (Unit ⊕ Unit)) :=
  (if (decide (g169.t15 < ((a0.length : Nat) : Int))) = true then
    (guardO (0 ≤ g169.t15 ∧ g169.t15 < (a0.length : Int)) <|
    ((spec_l15Begins ((nth a0 g169.t15.toNat).Events) a1).bind fun c171 =>
    (if c171 = true then
      some (.inr (.inl ()))
    else
      some (.inl ⟨(wI (g169.t15 + 1))⟩))))
  else
    some (.inr (.inr ())))
structure spec_l15Add_G2 where
  t6 : Bool
  t27 : Int
  c0 : (List BranchT)
structure spec_l15Add_P2_0 where
  t6 : Bool
  c0 : (List BranchT)
structure spec_l15Add_J14014 where
  t47 : Bool
noncomputable def spec_l15Add_L2 (a0 : (List BranchT)) (a1 : (List EventT)) (g175 : spec_l15Add_G2) : Option (spec_l15Add_G2 ⊕ spec_l15Add_P2_0) :=
  (if (decide (g175.t27 < ((a0.length : Nat) : Int))) = true then
    (guardO (0 ≤ g175.t27 ∧ g175.t27 < (a0.length : Int)) <|
    ((spec_l15Begins a1 ((nth a0 g175.t27.toNat).Events)).bind fun c183 =>
    (if c183 = true then
      some (.inl ⟨g175.t6,(wI (g175.t27 + 1)),g175.c0⟩)
    else
      ((spec_l15Compare ((nth a0 g175.t27.toNat).Events) a1).bind fun c184 =>
      (((if (decide (c184.1 > 0)) = true then
          some (⟨(!g175.t6)⟩ : spec_l15Add_J14014)
        else
          some (⟨false⟩ : spec_l15Add_J14014)) : Option spec_l15Add_J14014).bind fun p185 =>
      (if p185.t47 = true then
        ((spec_l15OwnEvents a1).bind fun c186 =>
        (guardO ((g175.c0.length + 1) * 24 ≤ 140737488355328) <|
        ((spec_l15OwnEvents ((nth a0 g175.t27.toNat).Events)).bind fun c188 =>
        (guardO (((g175.c0.length + 1) + 1) * 24 ≤ 140737488355328) <|
        some (.inl ⟨true,(wI (g175.t27 + 1)),((g175.c0 ++ [(⟨c186⟩ : BranchT)]) ++ [(⟨c188⟩ : BranchT)])⟩)))))
      else
        ((spec_l15OwnEvents ((nth a0 g175.t27.toNat).Events)).bind fun c189 =>
        (guardO ((g175.c0.length + 1) * 24 ≤ 140737488355328) <|
        some (.inl ⟨g175.t6,(wI (g175.t27 + 1)),(g175.c0 ++ [(⟨c189⟩ : BranchT)])⟩)))))))))
  else
    some (.inr (⟨g175.t6,g175.c0⟩)))
noncomputable def spec_l15Add (a0 : (List BranchT)) (a1 : (List EventT)) : Option (List BranchT) :=
  ((loopF (spec_l15Add_L1 a0 a1) ⟨0⟩).bind fun y172 =>
  match y172 with
  | .inl p173 =>
    some a0
  | .inr p174 =>
    ((loopF (spec_l15Add_L2 a0 a1) ⟨false,0,[]⟩).bind fun y190 =>
    (if (!y190.t6) = true then
      ((spec_l15OwnEvents a1).bind fun c191 =>
      (guardO ((y190.c0.length + 1) * 24 ≤ 140737488355328) <|
      some (y190.c0 ++ [(⟨c191⟩ : BranchT)])))
    else
      some y190.c0)))
structure spec_l15Own_G1 where
  t9 : Int
  c1 : (List BranchT)
structure spec_l15Own_P1_0 where
  c1 : (List BranchT)
noncomputable def spec_l15Own_L1 (a0 : TellingsT) (g212 : spec_l15Own_G1) : Option (spec_l15Own_G1 ⊕ spec_l15Own_P1_0) :=
  (if (decide (g212.t9 < ((a0.Branches.length : Nat) : Int))) = true then
    (guardO (0 ≤ g212.t9 ∧ g212.t9 < (a0.Branches.length : Int)) <|
    ((spec_l15OwnEvents ((nth a0.Branches g212.t9.toNat).Events)).bind fun c214 =>
    (guardO ((g212.c1.length + 1) * 24 ≤ 140737488355328) <|
    some (.inl ⟨(wI (g212.t9 + 1)),(g212.c1 ++ [(⟨c214⟩ : BranchT)])⟩))))
  else
    some (.inr (⟨g212.c1⟩)))
noncomputable def spec_l15Own (a0 : TellingsT) : Option TellingsT :=
  ((loopF (spec_l15Own_L1 a0) ⟨0,[]⟩).bind fun y215 =>
  some (⟨y215.c1⟩ : TellingsT))
structure spec_AddBranch_J4001 where
  t14 : Bool
noncomputable def spec_AddBranch (a0 : TellingsT) (a1 : (List EventT)) : Option (TellingsT × Bool) :=
  ((((spec_GoodTellings a0).bind fun c154 =>
    (if (!c154) = true then
      some (⟨true⟩ : spec_AddBranch_J4001)
    else
      ((spec_l15History a1).bind fun c155 =>
      some (⟨(!c155)⟩ : spec_AddBranch_J4001)))) : Option spec_AddBranch_J4001).bind fun p156 =>
  (if p156.t14 = true then
    some ((⟨[]⟩ : TellingsT),false)
  else
    ((spec_l15Add a0.Branches a1).bind fun c211 =>
    ((spec_l15Own (⟨c211⟩ : TellingsT)).bind fun c216 =>
    ((spec_GoodTellings c216).bind fun c217 =>
    (if (!c217) = true then
      some ((⟨[]⟩ : TellingsT),false)
    else
      some (c216,true)))))))
structure spec_l1Cur_tellings_o_J2014 where
  t6 : Int
  b0_0 : (List Int)
  b0_1 : Int
  b0_2 : Int
structure spec_l1Cur_tellings_o_G1 where
  t6 : Int
  b0_0 : (List Int)
  b0_1 : Int
  b0_2 : Int
  c3 : (List BranchT)
structure spec_l1Cur_tellings_o_P1_0 where
  b0_0 : (List Int)
  b0_1 : Int
  b0_2 : Int
  c3 : (List BranchT)
noncomputable def spec_l1Cur_tellings_o_L1 (a1 : (List EventT)) (g118 : spec_l1Cur_tellings_o_G1) : Option (spec_l1Cur_tellings_o_G1 ⊕ spec_l1Cur_tellings_o_P1_0) :=
  (if (decide (g118.t6 > 0)) = true then
    ((spec_l1Cur_grown_o_F (⟨g118.b0_0,g118.b0_1,g118.b0_2⟩ : l1CurT) a1).bind fun c219 =>
    ((spec_AddBranch (⟨g118.c3⟩ : TellingsT) c219.1).bind fun c220 =>
    (if c220.2 = true then
      some (.inl ⟨(wI (g118.t6 - 1)),c219.2.code,c219.2.at_,c219.2.seed,c220.1.Branches⟩)
    else
      some (.inl ⟨(wI (g118.t6 - 1)),c219.2.code,c219.2.at_,c219.2.seed,g118.c3⟩))))
  else
    some (.inr (⟨g118.b0_0,g118.b0_1,g118.b0_2,g118.c3⟩)))
structure spec_l1Cur_tellings_o_J4010 where
  t36 : Bool
  b0_0 : (List Int)
  b0_1 : Int
  b0_2 : Int
noncomputable def spec_l1Cur_tellings_o (a0 : l1CurT) (a1 : (List EventT)) : Option (TellingsT × l1CurT) :=
  ((spec_l1Cur_pick_o a0 5).bind fun c114 =>
  ((((spec_l1Cur_one_o c114.2 20).bind fun c116 =>
    (if c116.1 = true then
      some (⟨16,c116.2.code,c116.2.at_,c116.2.seed⟩ : spec_l1Cur_tellings_o_J2014)
    else
      some (⟨c114.1,c116.2.code,c116.2.at_,c116.2.seed⟩ : spec_l1Cur_tellings_o_J2014))) : Option spec_l1Cur_tellings_o_J2014).bind fun p117 =>
  ((loopF (spec_l1Cur_tellings_o_L1 a1) ⟨p117.t6,p117.b0_0,p117.b0_1,p117.b0_2,[]⟩).bind fun y221 =>
  (((if (decide (((y221.c3.length : Nat) : Int) > 0)) = true then
      ((spec_l1Cur_one_o (⟨y221.b0_0,y221.b0_1,y221.b0_2⟩ : l1CurT) 30).bind fun c222 =>
      some (⟨c222.1,c222.2.code,c222.2.at_,c222.2.seed⟩ : spec_l1Cur_tellings_o_J4010))
    else
      some (⟨false,y221.b0_0,y221.b0_1,y221.b0_2⟩ : spec_l1Cur_tellings_o_J4010)) : Option spec_l1Cur_tellings_o_J4010).bind fun p223 =>
  (if p223.t36 = true then
    ((spec_l1Cur_pick_o (⟨p223.b0_0,p223.b0_1,p223.b0_2⟩ : l1CurT) ((y221.c3.length : Nat) : Int)).bind fun c224 =>
    ((spec_l1Cur_history_o c224.2).bind fun c262 =>
    (guardO (0 ≤ c224.1 ∧ c224.1 < ((y221.c3.length : Nat) : Int)) <|
    some ((⟨(y221.c3.set c224.1.toNat (⟨c262.1⟩ : BranchT))⟩ : TellingsT),c262.2))))
  else
    some ((⟨y221.c3⟩ : TellingsT),(⟨p223.b0_0,p223.b0_1,p223.b0_2⟩ : l1CurT)))))))
structure laws_sameEvents_G1 where
  t13 : Int
noncomputable def laws_sameEvents_L1 (a0 : (List EventT)) (a1 : (List EventT)) (g482 : laws_sameEvents_G1) : Option (laws_sameEvents_G1 ⊕ (Unit ⊕ Unit)) :=
  (if (decide (g482.t13 < ((a0.length : Nat) : Int))) = true then
    (guardO (0 ≤ g482.t13 ∧ g482.t13 < (a0.length : Int)) <|
    (guardO (0 ≤ g482.t13 ∧ g482.t13 < (a1.length : Int)) <|
    (if (!((((nth a0 g482.t13.toNat).Id) == ((nth a1 g482.t13.toNat).Id)) && ((((nth a0 g482.t13.toNat).Version) == ((nth a1 g482.t13.toNat).Version)) && ((((nth a0 g482.t13.toNat).Kind) == ((nth a1 g482.t13.toNat).Kind)) && (((nth a0 g482.t13.toNat).Name).toList == ((nth a1 g482.t13.toNat).Name).toList))))) = true then
      some (.inr (.inl ()))
    else
      some (.inl ⟨(wI (g482.t13 + 1))⟩))))
  else
    some (.inr (.inr ())))
noncomputable def laws_sameEvents (a0 : (List EventT)) (a1 : (List EventT)) : Option Bool :=
  (if (((a0.length : Nat) : Int) != ((a1.length : Nat) : Int)) = true then
    some false
  else
    ((loopF (laws_sameEvents_L1 a0 a1) ⟨0⟩).bind fun y483 =>
    match y483 with
    | .inl p484 =>
      some false
    | .inr p485 =>
      some true))
end Go.TL
namespace Go.TL
noncomputable def impl_added_c1_r (a0 : BranchT) (a1 : (List EventT)) : Option Bool :=
  ((impl_begins a1 a0.Events).bind fun c340 =>
  some c340)
structure slices_IndexFunc_impl_Branch_impl_added_c1r_G1 where
  t8 : Int
structure slices_IndexFunc_impl_Branch_impl_added_c1r_P1_0 where
  t4 : Int
noncomputable def slices_IndexFunc_impl_Branch_impl_added_c1r_L1 (a0 : (List BranchT)) (a1 : (List EventT)) (g339 : slices_IndexFunc_impl_Branch_impl_added_c1r_G1) : Option (slices_IndexFunc_impl_Branch_impl_added_c1r_G1 ⊕ (slices_IndexFunc_impl_Branch_impl_added_c1r_P1_0 ⊕ Unit)) :=
  (if (decide (g339.t8 < ((a0.length : Nat) : Int))) = true then
    (guardO (0 ≤ g339.t8 ∧ g339.t8 < (a0.length : Int)) <|
    ((impl_added_c1_r (nth a0 g339.t8.toNat) a1).bind fun c342 =>
    (if c342 = true then
      some (.inr (.inl (⟨g339.t8⟩)))
    else
      some (.inl ⟨(wI (g339.t8 + 1))⟩))))
  else
    some (.inr (.inr ())))
noncomputable def slices_IndexFunc_impl_Branch_impl_added_c1r (a0 : (List BranchT)) (a1 : (List EventT)) : Option Int :=
  ((loopF (slices_IndexFunc_impl_Branch_impl_added_c1r_L1 a0 a1) ⟨0⟩).bind fun y343 =>
  match y343 with
  | .inl p344 =>
    some p344.t4
  | .inr p345 =>
    some (-1))
noncomputable def slices_ContainsFunc_impl_Branch_impl_added_c1r (a0 : (List BranchT)) (a1 : (List EventT)) : Option Bool :=
  ((slices_IndexFunc_impl_Branch_impl_added_c1r a0 a1).bind fun c346 =>
  some (decide (c346 ≥ 0)))
noncomputable def impl_added_c2_r (a0 : BranchT) (a1 : (List EventT)) : Option Bool :=
  ((impl_begins a0.Events a1).bind fun c348 =>
  some c348)
noncomputable def slices_DeleteFunc_impl_Branch_deep (a0 : (List BranchT)) (a1 : (List EventT)) : Option (List BranchT) :=
  guardO (a0.length ≤ 9223372036854775807 ∧ (a0.all fun b => (impl_added_c2_r b a1).isSome) = true) (some (a0.filter fun b => !((impl_added_c2_r b a1).getD false)))
noncomputable def impl_added_c3 (a0 : BranchT) (a1 : BranchT) : Option Int :=
  ((impl_branchOrder a0.Events a1.Events).bind fun c355 =>
  some c355)
noncomputable def slices_SortFunc_impl_Branch_deep (a0 : (List BranchT)) : Option (List BranchT) :=
  guardO (a0.length < 4611686018427387904 ∧ (a0.all fun b => decide (b.Events.length ≤ 1000)) = true ∧ aptO brL a0 = true) (some (sortO brL a0))
noncomputable def impl_added (a0 : TellingsT) (a1 : (List EventT)) : Option TellingsT :=
  ((impl_cloneTellings a0).bind fun c351 =>
  ((slices_ContainsFunc_impl_Branch_impl_added_c1r c351.Branches a1).bind fun c352 =>
  (if c352 = true then
    some c351
  else
    ((slices_DeleteFunc_impl_Branch_deep c351.Branches a1).bind fun c353 =>
    ((slices_Clone_impl_Event a1).bind fun c354 =>
    (guardO ((c353.length + 1) * 24 ≤ 140737488355328) <|
    ((slices_SortFunc_impl_Branch_deep (c353 ++ [(⟨c354⟩ : BranchT)])).bind fun c356 =>
    (guardO (c356.length = (c353.length + 1)) <|
    some (⟨c356⟩ : TellingsT)))))))))
structure impl_AddBranch_J4001 where
  t14 : Bool
noncomputable def impl_AddBranch (a0 : TellingsT) (a1 : (List EventT)) : Option (TellingsT × Bool) :=
  ((((impl_GoodTellings a0).bind fun c331 =>
    (if (!c331) = true then
      some (⟨true⟩ : impl_AddBranch_J4001)
    else
      ((impl_isTelling a1).bind fun c332 =>
      some (⟨(!c332)⟩ : impl_AddBranch_J4001)))) : Option impl_AddBranch_J4001).bind fun p333 =>
  (if p333.t14 = true then
    some ((⟨[]⟩ : TellingsT),false)
  else
    ((impl_added a0 a1).bind fun c357 =>
    (if (decide (((c357.Branches.length : Nat) : Int) > 12)) = true then
      some ((⟨[]⟩ : TellingsT),false)
    else
      some (c357,true)))))
structure spec_l15Merge_G1 where
  t5 : (List BranchT)
  t13 : Int
structure spec_l15Merge_P1_0 where
  t5 : (List BranchT)
noncomputable def spec_l15Merge_L1 (a1 : TellingsT) (g425 : spec_l15Merge_G1) : Option (spec_l15Merge_G1 ⊕ spec_l15Merge_P1_0) :=
  (if (decide (g425.t13 < ((a1.Branches.length : Nat) : Int))) = true then
    (guardO (0 ≤ g425.t13 ∧ g425.t13 < (a1.Branches.length : Int)) <|
    ((spec_l15Add g425.t5 ((nth a1.Branches g425.t13.toNat).Events)).bind fun c427 =>
    some (.inl ⟨c427,(wI (g425.t13 + 1))⟩)))
  else
    some (.inr (⟨g425.t5⟩)))
noncomputable def spec_l15Merge (a0 : TellingsT) (a1 : TellingsT) : Option TellingsT :=
  ((loopF (spec_l15Merge_L1 a1) ⟨a0.Branches,0⟩).bind fun y428 =>
  ((spec_l15Own (⟨y428.t5⟩ : TellingsT)).bind fun c429 =>
  some c429))
structure spec_MergeTellings_J4001 where
  t14 : Bool
noncomputable def spec_MergeTellings (a0 : TellingsT) (a1 : TellingsT) : Option (TellingsT × Bool) :=
  ((((spec_GoodTellings a0).bind fun c422 =>
    (if (!c422) = true then
      some (⟨true⟩ : spec_MergeTellings_J4001)
    else
      ((spec_GoodTellings a1).bind fun c423 =>
      some (⟨(!c423)⟩ : spec_MergeTellings_J4001)))) : Option spec_MergeTellings_J4001).bind fun p424 =>
  (if p424.t14 = true then
    some ((⟨[]⟩ : TellingsT),false)
  else
    ((spec_l15Merge a0 a1).bind fun c431 =>
    ((spec_GoodTellings c431).bind fun c432 =>
    (if (!c432) = true then
      some ((⟨[]⟩ : TellingsT),false)
    else
      some (c431,true))))))
structure impl_MergeTellings_J4001 where
  t16 : Bool
structure impl_MergeTellings_G1 where
  t23 : Int
  c2 : (List BranchT)
structure impl_MergeTellings_P1_0 where
  c2 : (List BranchT)
noncomputable def impl_MergeTellings_L1 (a1 : TellingsT) (g440 : impl_MergeTellings_G1) : Option (impl_MergeTellings_G1 ⊕ impl_MergeTellings_P1_0) :=
  (if (decide (g440.t23 < ((a1.Branches.length : Nat) : Int))) = true then
    (guardO (0 ≤ g440.t23 ∧ g440.t23 < (a1.Branches.length : Int)) <|
    ((impl_added (⟨g440.c2⟩ : TellingsT) ((nth a1.Branches g440.t23.toNat).Events)).bind fun c442 =>
    some (.inl ⟨(wI (g440.t23 + 1)),c442.Branches⟩)))
  else
    some (.inr (⟨g440.c2⟩)))
noncomputable def impl_MergeTellings (a0 : TellingsT) (a1 : TellingsT) : Option (TellingsT × Bool) :=
  ((((impl_GoodTellings a0).bind fun c436 =>
    (if (!c436) = true then
      some (⟨true⟩ : impl_MergeTellings_J4001)
    else
      ((impl_GoodTellings a1).bind fun c437 =>
      some (⟨(!c437)⟩ : impl_MergeTellings_J4001)))) : Option impl_MergeTellings_J4001).bind fun p438 =>
  (if p438.t16 = true then
    some ((⟨[]⟩ : TellingsT),false)
  else
    ((impl_cloneTellings a0).bind fun c439 =>
    ((loopF (impl_MergeTellings_L1 a1) ⟨0,c439.Branches⟩).bind fun y443 =>
    (if (decide (((y443.c2.length : Nat) : Int) > 12)) = true then
      some ((⟨[]⟩ : TellingsT),false)
    else
      some ((⟨y443.c2⟩ : TellingsT),true))))))
end Go.TL
namespace Go.TL
structure laws_sameTellings_G1 where
  t16 : Int
noncomputable def laws_sameTellings_L1 (a0 : TellingsT) (a1 : TellingsT) (g450 : laws_sameTellings_G1) : Option (laws_sameTellings_G1 ⊕ (Unit ⊕ Unit)) :=
  (if (decide (g450.t16 < ((a0.Branches.length : Nat) : Int))) = true then
    (guardO (0 ≤ g450.t16 ∧ g450.t16 < (a0.Branches.length : Int)) <|
    (guardO (0 ≤ g450.t16 ∧ g450.t16 < (a1.Branches.length : Int)) <|
    ((laws_sameEvents ((nth a0.Branches g450.t16.toNat).Events) ((nth a1.Branches g450.t16.toNat).Events)).bind fun c456 =>
    (if (!c456) = true then
      some (.inr (.inl ()))
    else
      some (.inl ⟨(wI (g450.t16 + 1))⟩)))))
  else
    some (.inr (.inr ())))
noncomputable def laws_sameTellings (a0 : TellingsT) (a1 : TellingsT) : Option Bool :=
  (if (((a0.Branches.length : Nat) : Int) != ((a1.Branches.length : Nat) : Int)) = true then
    some false
  else
    ((loopF (laws_sameTellings_L1 a0 a1) ⟨0⟩).bind fun y457 =>
    match y457 with
    | .inl p458 =>
      some false
    | .inr p459 =>
      some true))
noncomputable def spec_DrawMergeTellings_F (a0 : (List Int)) : Option (TellingsT × TellingsT) :=
  ((spec_l1Cur_stem_o_F (⟨a0,0,0⟩ : l1CurT)).bind fun c471 =>
  ((spec_l1Cur_tellings_o c471.2 c471.1).bind fun c472 =>
  ((spec_l1Cur_tellings_o c472.2 c471.1).bind fun c473 =>
  some (c472.1,c473.1))))
noncomputable def spec_DrawAddBranch (a0 : (List Int)) : Option (TellingsT × (List EventT)) :=
  ((spec_l1Cur_stem_o_F (⟨a0,0,0⟩ : l1CurT)).bind fun c543 =>
  ((spec_l1Cur_tellings_o c543.2 c543.1).bind fun c544 =>
  ((spec_l1Cur_grown_o_F c544.2 c543.1).bind fun c545 =>
  some (c544.1,c545.1))))
structure laws_FnBranches_J4007 where
  t92 : Bool
structure laws_FnBranches_J4012 where
  t128 : Bool
structure laws_FnBranches_G1 where
  t133 : Int
structure laws_FnBranches_G2 where
  t140 : Int
structure laws_FnBranches_J34021 where
  t156 : Bool
noncomputable def laws_FnBranches_L2 (c474 : (TellingsT × TellingsT)) (g489 : laws_FnBranches_G1) (c475 : (TellingsT × Bool)) (g510 : laws_FnBranches_G2) : Option (laws_FnBranches_G2 ⊕ (Unit ⊕ Unit)) :=
  (if (decide (g510.t140 < ((((nth ([c474.1,c474.2]) g489.t133.toNat).Branches).length : Nat) : Int))) = true then
    (guardO (0 ≤ g510.t140 ∧ g510.t140 < (((nth ([c474.1,c474.2]) g489.t133.toNat).Branches).length : Int)) <|
    ((impl_HasHistory c475.1 ((nth ((nth ([c474.1,c474.2]) g489.t133.toNat).Branches) g510.t140.toNat).Events)).bind fun c513 =>
    (((if (!c513.2) = true then
        some (⟨true⟩ : laws_FnBranches_J34021)
      else
        some (⟨(!c513.1)⟩ : laws_FnBranches_J34021)) : Option laws_FnBranches_J34021).bind fun p514 =>
    (if p514.t156 = true then
      some (.inr (.inl ()))
    else
      some (.inl ⟨(wI (g510.t140 + 1))⟩)))))
  else
    some (.inr (.inr ())))
noncomputable def laws_FnBranches_L1 (c474 : (TellingsT × TellingsT)) (c475 : (TellingsT × Bool)) (g489 : laws_FnBranches_G1) : Option (laws_FnBranches_G1 ⊕ (Unit ⊕ Unit)) :=
  (if (decide (g489.t133 < 2)) = true then
    (guardO (0 ≤ g489.t133 ∧ g489.t133 < 2) <|
    ((loopF (laws_FnBranches_L2 c474 g489 c475) ⟨0⟩).bind fun y515 =>
    match y515 with
    | .inl p516 =>
      some (.inr (.inl ()))
    | .inr p517 =>
      some (.inl ⟨(wI (g489.t133 + 1))⟩)))
  else
    some (.inr (.inr ())))
structure laws_FnBranches_J4028 where
  t200 : Bool
structure laws_FnBranches_J4033 where
  t226 : Bool
noncomputable def laws_FnBranches (a0 : (List Int)) (a1 : (List Int)) : Option Bool :=
  (if (decide ((wI (((a0.length : Nat) : Int) + ((a1.length : Nat) : Int))) > 1048576)) = true then
    some true
  else
    ((spec_DrawMergeTellings_F a0).bind fun c474 =>
    ((impl_MergeTellings c474.1 c474.2).bind fun c475 =>
    ((spec_MergeTellings c474.1 c474.2).bind fun c476 =>
    ((impl_MergeTellings c474.2 c474.1).bind fun c477 =>
    (((if (!(c475.2 == c476.2)) = true then
        some (⟨true⟩ : laws_FnBranches_J4007)
      else
        (if (!(c477.2 == c476.2)) = true then
          some (⟨true⟩ : laws_FnBranches_J4007)
        else
          ((laws_sameTellings c475.1 c476.1).bind fun c478 =>
          (if (!c478) = true then
            some (⟨true⟩ : laws_FnBranches_J4007)
          else
            ((laws_sameTellings c477.1 c475.1).bind fun c479 =>
            (if (!c479) = true then
              some (⟨true⟩ : laws_FnBranches_J4007)
            else
              ((impl_GoodTellings c474.1).bind fun c480 =>
              ((spec_GoodTellings c474.1).bind fun c481 =>
              some (⟨(!(c480 == c481))⟩ : laws_FnBranches_J4007))))))))) : Option laws_FnBranches_J4007).bind fun p482 =>
    (if p482.t92 = true then
      some false
    else
      (((if c475.2 = true then
          ((impl_MergeTellings c475.1 c475.1).bind fun c483 =>
          ((impl_MergeTellings c475.1 c474.1).bind fun c484 =>
          (((if (!c483.2) = true then
              some (⟨true⟩ : laws_FnBranches_J4012)
            else
              (if (!c484.2) = true then
                some (⟨true⟩ : laws_FnBranches_J4012)
              else
                ((laws_sameTellings c483.1 c475.1).bind fun c485 =>
                (if (!c485) = true then
                  some (⟨true⟩ : laws_FnBranches_J4012)
                else
                  ((laws_sameTellings c484.1 c475.1).bind fun c486 =>
                  (if (!c486) = true then
                    some (⟨true⟩ : laws_FnBranches_J4012)
                  else
                    ((impl_GoodTellings c475.1).bind fun c487 =>
                    some (⟨(!c487)⟩ : laws_FnBranches_J4012)))))))) : Option laws_FnBranches_J4012).bind fun p488 =>
          (if p488.t128 = true then
            some (.inr false)
          else
            ((loopF (laws_FnBranches_L1 c474 c475) ⟨0⟩).bind fun y518 =>
            match y518 with
            | .inl p519 =>
              some (.inr false)
            | .inr p520 =>
              ((impl_EventsIn c474.1).bind fun c534 =>
              ((impl_EventsIn c474.2).bind fun c535 =>
              ((impl_EventsIn c475.1).bind fun c536 =>
              (((if (!c534.2) = true then
                  some (⟨true⟩ : laws_FnBranches_J4028)
                else
                  (if (!c535.2) = true then
                    some (⟨true⟩ : laws_FnBranches_J4028)
                  else
                    (if (!c536.2) = true then
                      some (⟨true⟩ : laws_FnBranches_J4028)
                    else
                      (if (decide (c536.1 > (wI (c534.1 + c535.1)))) = true then
                        some (⟨true⟩ : laws_FnBranches_J4028)
                      else
                        (if (decide (c536.1 < c534.1)) = true then
                          some (⟨true⟩ : laws_FnBranches_J4028)
                        else
                          some (⟨(decide (c536.1 < c535.1))⟩ : laws_FnBranches_J4028)))))) : Option laws_FnBranches_J4028).bind fun p537 =>
              (if p537.t200 = true then
                some (.inr false)
              else
                some (.inl (() : Unit))))))))))))
        else
          some (.inl (() : Unit))) : Option (Unit ⊕ Bool)).bind fun q => match q with
      | .inl p542 =>
        ((spec_DrawAddBranch a1).bind fun c546 =>
        ((impl_AddBranch c546.1 c546.2).bind fun c551 =>
        ((spec_AddBranch c546.1 c546.2).bind fun c552 =>
        (((if (!(c551.2 == c552.2)) = true then
            some (⟨true⟩ : laws_FnBranches_J4033)
          else
            ((laws_sameTellings c551.1 c552.1).bind fun c553 =>
            some (⟨(!c553)⟩ : laws_FnBranches_J4033))) : Option laws_FnBranches_J4033).bind fun p554 =>
        (if p554.t226 = true then
          some false
        else
          (if (!c551.2) = true then
            some (((c551.1.Branches.length : Nat) : Int) == 0)
          else
            ((impl_HasHistory c551.1 c546.2).bind fun c555 =>
            (if c555.2 = true then
              some c555.1
            else
              some false))))))))
      | .inr v => some v))))))))
end Go.TL

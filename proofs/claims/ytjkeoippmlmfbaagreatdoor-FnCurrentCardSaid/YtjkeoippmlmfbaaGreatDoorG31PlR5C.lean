import Derived.Test.YtjkeoippmlmfbaaGreatDoorG21PlR3M
import Derived.Test.YtjkeoippmlmfbaaGreatDoorG19PlTrim
import Derived.Test.YtjkeoippmlmfbaaGreatDoorG30PpOrd
set_option linter.unusedSimpArgs false
set_option linter.unusedVariables false
namespace Go.TL
structure spec_l1Cur_grown_o_F_J2015 where
  t1 : (List EventT)
structure spec_l1Cur_grown_o_F_J2033 where
  t8 : Int
  b0_0 : (List Int)
  b0_1 : Int
  b0_2 : Int
structure spec_l1Cur_grown_o_F_G1 where
  t8 : Int
  t9 : Int
  b0_0 : (List Int)
  b0_1 : Int
  b0_2 : Int
  c1 : (List EventT)
  b2_0 : Int
  b2_1 : Int
  b2_2 : Bool
  b2_3 : Int
  b2_4 : (List ByteArray)
  b2_5 : (List ByteArray)
structure spec_l1Cur_grown_o_F_P1_0 where
  b0_0 : (List Int)
  b0_1 : Int
  b0_2 : Int
  c1 : (List EventT)
structure spec_l1Cur_grown_o_F_J12062 where
  b3_2 : Int
noncomputable def spec_l1Cur_grown_o_F_L1 (g91 : spec_l1Cur_grown_o_F_G1) : Option (spec_l1Cur_grown_o_F_G1 ⊕ spec_l1Cur_grown_o_F_P1_0) :=
  (if (decide (g91.t9 > 0)) = true then
    ((spec_l1Cur_among_ow (⟨g91.b0_0, g91.b0_1, g91.b0_2⟩ : l1CurT) ([2, 3, 4])).bind fun c100 =>
    ((spec_l1Cur_of_ow c100.2 ([(⟨#[97]⟩ : ByteArray), (⟨#[98]⟩ : ByteArray), (⟨#[99]⟩ : ByteArray)])).bind fun c101 =>
    (((if (g91.b2_0 == 0) = true then
        some (⟨1⟩ : spec_l1Cur_grown_o_F_J12062)
      else
        some (⟨c100.1⟩ : spec_l1Cur_grown_o_F_J12062)) : Option spec_l1Cur_grown_o_F_J12062).bind fun p102 =>
    ((spec_l12Apply (⟨g91.b2_0, g91.b2_1, g91.b2_2, g91.b2_3, g91.b2_4, g91.b2_5⟩ : StateT) (⟨g91.b2_1, g91.t8, p102.b3_2, c101.1⟩ : EventT)).bind fun c103 =>
    (if c103.2 = true then
      (guardO ((g91.c1.length + 1) * 40 ≤ 140737488355328) <|
      ((spec_l1Cur_pick_o c101.2 2).bind fun c104 =>
      some (.inl ⟨(wI (g91.t8 + c104.1)), (wI (g91.t9 - 1)), c104.2.code, c104.2.at_, c104.2.seed, (g91.c1 ++ ([(⟨g91.b2_1, g91.t8, p102.b3_2, c101.1⟩ : EventT)])), c103.1.Status, c103.1.Next, c103.1.Cancel, c103.1.Done, c103.1.Signals, c103.1.Timers⟩)))
    else
      ((spec_l1Cur_pick_o c101.2 2).bind fun c105 =>
      some (.inl ⟨(wI (g91.t8 + c105.1)), (wI (g91.t9 - 1)), c105.2.code, c105.2.at_, c105.2.seed, g91.c1, g91.b2_0, g91.b2_1, g91.b2_2, g91.b2_3, g91.b2_4, g91.b2_5⟩)))))))
  else
    some (.inr (⟨g91.b0_0, g91.b0_1, g91.b0_2, g91.c1⟩)))
noncomputable def spec_l1Cur_grown_o_F (a0 : l1CurT) (a1 : (List EventT)) : Option ((List EventT) × l1CurT) :=
  ((((spec_IsHistory a1).bind fun c72 =>
    (if (!c72) = true then
      some (⟨[]⟩ : spec_l1Cur_grown_o_F_J2015)
    else
      some (⟨a1⟩ : spec_l1Cur_grown_o_F_J2015))) : Option spec_l1Cur_grown_o_F_J2015).bind fun p73 =>
  ((spec_l1Cur_pick_o a0 (wI (((p73.t1.length : Nat) : Int) + 1))).bind fun c77 =>
  (guardO (0 ≤ c77.1 ∧ c77.1 ≤ (p73.t1.length : Int)) <|
  ((spec_l15OwnEvents (p73.t1.take c77.1.toNat)).bind fun c78 =>
  ((spec_l12Fold_w c78).bind fun c86 =>
  ((spec_l1Cur_pick_o c77.2 9).bind fun c87 =>
  (((if (decide (((c78.length : Nat) : Int) > 0)) = true then
      (guardO (0 ≤ (wI (((c78.length : Nat) : Int) - 1)) ∧ (wI (((c78.length : Nat) : Int) - 1)) < ((c78.length : Nat) : Int)) <|
      ((spec_l1Cur_pick_o c87.2 3).bind fun c88 =>
      some (⟨(wI (((nth c78 ((wI (((c78.length : Nat) : Int) - 1)).toNat)).Version) + c88.1)), c88.2.code, c88.2.at_, c88.2.seed⟩ : spec_l1Cur_grown_o_F_J2033)))
    else
      some (⟨c87.1, c87.2.code, c87.2.at_, c87.2.seed⟩ : spec_l1Cur_grown_o_F_J2033)) : Option spec_l1Cur_grown_o_F_J2033).bind fun p89 =>
  ((spec_l1Cur_pick_o (⟨p89.b0_0, p89.b0_1, p89.b0_2⟩ : l1CurT) 4).bind fun c90 =>
  ((loopF (spec_l1Cur_grown_o_F_L1) ⟨p89.t8, c90.1, c90.2.code, c90.2.at_, c90.2.seed, c78, c86.1.Status, c86.1.Next, c86.1.Cancel, c86.1.Done, c86.1.Signals, c86.1.Timers⟩).bind fun y106 =>
  some (y106.c1, (⟨y106.b0_0, y106.b0_1, y106.b0_2⟩ : l1CurT)))))))))))
structure spec_l1Cur_stem_o_F_G1 where
  t3 : (List EventT)
  t4 : Int
  b0_0 : (List Int)
  b0_1 : Int
  b0_2 : Int
structure spec_l1Cur_stem_o_F_P1_0 where
  t3 : (List EventT)
  b0_0 : (List Int)
  b0_1 : Int
  b0_2 : Int
noncomputable def spec_l1Cur_stem_o_F_L1 (g109 : spec_l1Cur_stem_o_F_G1) : Option (spec_l1Cur_stem_o_F_G1 ⊕ spec_l1Cur_stem_o_F_P1_0) :=
  (if (decide (g109.t4 > 0)) = true then
    ((spec_l1Cur_grown_o_F (⟨g109.b0_0, g109.b0_1, g109.b0_2⟩ : l1CurT) g109.t3).bind fun c111 =>
    (if (decide (((c111.1.length : Nat) : Int) ≥ ((g109.t3.length : Nat) : Int))) = true then
      some (.inl ⟨c111.1, (wI (g109.t4 - 1)), c111.2.code, c111.2.at_, c111.2.seed⟩)
    else
      some (.inl ⟨g109.t3, (wI (g109.t4 - 1)), c111.2.code, c111.2.at_, c111.2.seed⟩)))
  else
    some (.inr (⟨g109.t3, g109.b0_0, g109.b0_1, g109.b0_2⟩)))
noncomputable def spec_l1Cur_stem_o_F (a0 : l1CurT) : Option ((List EventT) × l1CurT) :=
  ((spec_l1Cur_grown_o_F a0 ([])).bind fun c107 =>
  ((spec_l1Cur_pick_o c107.2 3).bind fun c108 =>
  ((loopF (spec_l1Cur_stem_o_F_L1) ⟨c107.1, c108.1, c108.2.code, c108.2.at_, c108.2.seed⟩).bind fun y112 =>
  some (y112.t3, (⟨y112.b0_0, y112.b0_1, y112.b0_2⟩ : l1CurT)))))
structure spec_l15Add_G1 where
  t15 : Int
noncomputable def spec_l15Add_L1 (a0 : (List BranchT)) (a1 : (List EventT)) (g169 : spec_l15Add_G1) : Option (spec_l15Add_G1 ⊕ (Unit ⊕ Unit)) :=
  (if (decide (g169.t15 < ((a0.length : Nat) : Int))) = true then
    (guardO (0 ≤ g169.t15 ∧ g169.t15 < (a0.length : Int)) <|
    ((spec_l15Begins ((nth a0 g169.t15.toNat).Events) a1).bind fun c171 =>
    (if c171 = true then
      some (.inr (.inl ()))
    else
      some (.inl ⟨(wI (g169.t15 + 1))⟩))))
  else
    some (.inr (.inr ())))
structure spec_l15Add_G2 where
  t6 : Bool
  t27 : Int
  c0 : (List BranchT)
structure spec_l15Add_P2_0 where
  t6 : Bool
  c0 : (List BranchT)
structure spec_l15Add_J14014 where
  t47 : Bool
noncomputable def spec_l15Add_L2 (a0 : (List BranchT)) (a1 : (List EventT)) (g175 : spec_l15Add_G2) : Option (spec_l15Add_G2 ⊕ spec_l15Add_P2_0) :=
  (if (decide (g175.t27 < ((a0.length : Nat) : Int))) = true then
    (guardO (0 ≤ g175.t27 ∧ g175.t27 < (a0.length : Int)) <|
    ((spec_l15Begins a1 ((nth a0 g175.t27.toNat).Events)).bind fun c183 =>
    (if c183 = true then
      some (.inl ⟨g175.t6, (wI (g175.t27 + 1)), g175.c0⟩)
    else
      ((spec_l15Compare ((nth a0 g175.t27.toNat).Events) a1).bind fun c184 =>
      (((if (decide (c184.1 > 0)) = true then
          some (⟨(!g175.t6)⟩ : spec_l15Add_J14014)
        else
          some (⟨false⟩ : spec_l15Add_J14014)) : Option spec_l15Add_J14014).bind fun p185 =>
      (if p185.t47 = true then
        ((spec_l15OwnEvents a1).bind fun c186 =>
        (guardO ((g175.c0.length + 1) * 24 ≤ 140737488355328) <|
        ((spec_l15OwnEvents ((nth a0 g175.t27.toNat).Events)).bind fun c188 =>
        (guardO (((g175.c0.length + 1) + 1) * 24 ≤ 140737488355328) <|
        some (.inl ⟨true, (wI (g175.t27 + 1)), ((g175.c0 ++ [(⟨c186⟩ : BranchT)]) ++ [(⟨c188⟩ : BranchT)])⟩)))))
      else
        ((spec_l15OwnEvents ((nth a0 g175.t27.toNat).Events)).bind fun c189 =>
        (guardO ((g175.c0.length + 1) * 24 ≤ 140737488355328) <|
        some (.inl ⟨g175.t6, (wI (g175.t27 + 1)), (g175.c0 ++ [(⟨c189⟩ : BranchT)])⟩)))))))))
  else
    some (.inr (⟨g175.t6, g175.c0⟩)))
noncomputable def spec_l15Add (a0 : (List BranchT)) (a1 : (List EventT)) : Option (List BranchT) :=
  ((loopF (spec_l15Add_L1 a0 a1) ⟨0⟩).bind fun y172 =>
  match y172 with
  | .inl p173 =>
    some a0
  | .inr p174 =>
    ((loopF (spec_l15Add_L2 a0 a1) ⟨false, 0, []⟩).bind fun y190 =>
    (if (!y190.t6) = true then
      ((spec_l15OwnEvents a1).bind fun c191 =>
      (guardO ((y190.c0.length + 1) * 24 ≤ 140737488355328) <|
      some (y190.c0 ++ [(⟨c191⟩ : BranchT)])))
    else
      some y190.c0)))
structure spec_l15Own_G1 where
  t9 : Int
  c1 : (List BranchT)
structure spec_l15Own_P1_0 where
  c1 : (List BranchT)
noncomputable def spec_l15Own_L1 (a0 : TellingsT) (g212 : spec_l15Own_G1) : Option (spec_l15Own_G1 ⊕ spec_l15Own_P1_0) :=
  (if (decide (g212.t9 < ((a0.Branches.length : Nat) : Int))) = true then
    (guardO (0 ≤ g212.t9 ∧ g212.t9 < (a0.Branches.length : Int)) <|
    ((spec_l15OwnEvents ((nth a0.Branches g212.t9.toNat).Events)).bind fun c214 =>
    (guardO ((g212.c1.length + 1) * 24 ≤ 140737488355328) <|
    some (.inl ⟨(wI (g212.t9 + 1)), (g212.c1 ++ [(⟨c214⟩ : BranchT)])⟩))))
  else
    some (.inr (⟨g212.c1⟩)))
noncomputable def spec_l15Own (a0 : TellingsT) : Option TellingsT :=
  ((loopF (spec_l15Own_L1 a0) ⟨0, []⟩).bind fun y215 =>
  some (⟨y215.c1⟩ : TellingsT))
structure spec_AddBranch_J4001 where
  t14 : Bool
noncomputable def spec_AddBranch (a0 : TellingsT) (a1 : (List EventT)) : Option (TellingsT × Bool) :=
  ((((spec_GoodTellings a0).bind fun c154 =>
    (if (!c154) = true then
      some (⟨true⟩ : spec_AddBranch_J4001)
    else
      ((spec_l15History a1).bind fun c155 =>
      some (⟨(!c155)⟩ : spec_AddBranch_J4001)))) : Option spec_AddBranch_J4001).bind fun p156 =>
  (if p156.t14 = true then
    some ((⟨[]⟩ : TellingsT), false)
  else
    ((spec_l15Add a0.Branches a1).bind fun c211 =>
    ((spec_l15Own (⟨c211⟩ : TellingsT)).bind fun c216 =>
    ((spec_GoodTellings c216).bind fun c217 =>
    (if (!c217) = true then
      some ((⟨[]⟩ : TellingsT), false)
    else
      some (c216, true)))))))
structure spec_l1Cur_tellings_o_J2014 where
  t6 : Int
  b0_0 : (List Int)
  b0_1 : Int
  b0_2 : Int
structure spec_l1Cur_tellings_o_G1 where
  t6 : Int
  b0_0 : (List Int)
  b0_1 : Int
  b0_2 : Int
  c3 : (List BranchT)
structure spec_l1Cur_tellings_o_P1_0 where
  b0_0 : (List Int)
  b0_1 : Int
  b0_2 : Int
  c3 : (List BranchT)
noncomputable def spec_l1Cur_tellings_o_L1 (a1 : (List EventT)) (g118 : spec_l1Cur_tellings_o_G1) : Option (spec_l1Cur_tellings_o_G1 ⊕ spec_l1Cur_tellings_o_P1_0) :=
  (if (decide (g118.t6 > 0)) = true then
    ((spec_l1Cur_grown_o_F (⟨g118.b0_0, g118.b0_1, g118.b0_2⟩ : l1CurT) a1).bind fun c219 =>
    ((spec_AddBranch (⟨g118.c3⟩ : TellingsT) c219.1).bind fun c220 =>
    (if c220.2 = true then
      some (.inl ⟨(wI (g118.t6 - 1)), c219.2.code, c219.2.at_, c219.2.seed, c220.1.Branches⟩)
    else
      some (.inl ⟨(wI (g118.t6 - 1)), c219.2.code, c219.2.at_, c219.2.seed, g118.c3⟩))))
  else
    some (.inr (⟨g118.b0_0, g118.b0_1, g118.b0_2, g118.c3⟩)))
structure spec_l1Cur_tellings_o_J4010 where
  t36 : Bool
  b0_0 : (List Int)
  b0_1 : Int
  b0_2 : Int
noncomputable def spec_l1Cur_tellings_o (a0 : l1CurT) (a1 : (List EventT)) : Option (TellingsT × l1CurT) :=
  ((spec_l1Cur_pick_o a0 5).bind fun c114 =>
  ((((spec_l1Cur_one_o c114.2 20).bind fun c116 =>
    (if c116.1 = true then
      some (⟨16, c116.2.code, c116.2.at_, c116.2.seed⟩ : spec_l1Cur_tellings_o_J2014)
    else
      some (⟨c114.1, c116.2.code, c116.2.at_, c116.2.seed⟩ : spec_l1Cur_tellings_o_J2014))) : Option spec_l1Cur_tellings_o_J2014).bind fun p117 =>
  ((loopF (spec_l1Cur_tellings_o_L1 a1) ⟨p117.t6, p117.b0_0, p117.b0_1, p117.b0_2, []⟩).bind fun y221 =>
  (((if (decide (((y221.c3.length : Nat) : Int) > 0)) = true then
      ((spec_l1Cur_one_o (⟨y221.b0_0, y221.b0_1, y221.b0_2⟩ : l1CurT) 30).bind fun c222 =>
      some (⟨c222.1, c222.2.code, c222.2.at_, c222.2.seed⟩ : spec_l1Cur_tellings_o_J4010))
    else
      some (⟨false, y221.b0_0, y221.b0_1, y221.b0_2⟩ : spec_l1Cur_tellings_o_J4010)) : Option spec_l1Cur_tellings_o_J4010).bind fun p223 =>
  (if p223.t36 = true then
    ((spec_l1Cur_pick_o (⟨p223.b0_0, p223.b0_1, p223.b0_2⟩ : l1CurT) ((y221.c3.length : Nat) : Int)).bind fun c224 =>
    ((spec_l1Cur_history_o c224.2).bind fun c262 =>
    (guardO (0 ≤ c224.1 ∧ c224.1 < ((y221.c3.length : Nat) : Int)) <|
    some ((⟨(y221.c3.set c224.1.toNat (⟨c262.1⟩ : BranchT))⟩ : TellingsT), c262.2))))
  else
    some ((⟨y221.c3⟩ : TellingsT), (⟨p223.b0_0, p223.b0_1, p223.b0_2⟩ : l1CurT)))))))
noncomputable def spec_DrawGoodTellings (a0 : (List Int)) : Option TellingsT :=
  ((spec_l1Cur_stem_o_F (⟨a0, 0, 0⟩ : l1CurT)).bind fun c113 =>
  ((spec_l1Cur_tellings_o c113.2 c113.1).bind fun c267 =>
  some c267.1))
noncomputable def spec_DrawCurrentOf (a0 : (List Int)) : Option TellingsT :=
  ((spec_DrawGoodTellings a0).bind fun c268 =>
  some c268)
structure laws_sameEvents_G1 where
  t13 : Int
noncomputable def laws_sameEvents_L1 (a0 : (List EventT)) (a1 : (List EventT)) (g482 : laws_sameEvents_G1) : Option (laws_sameEvents_G1 ⊕ (Unit ⊕ Unit)) :=
  (if (decide (g482.t13 < ((a0.length : Nat) : Int))) = true then
    (guardO (0 ≤ g482.t13 ∧ g482.t13 < (a0.length : Int)) <|
    (guardO (0 ≤ g482.t13 ∧ g482.t13 < (a1.length : Int)) <|
    (if (!((((nth a0 g482.t13.toNat).Id) == ((nth a1 g482.t13.toNat).Id)) && ((((nth a0 g482.t13.toNat).Version) == ((nth a1 g482.t13.toNat).Version)) && ((((nth a0 g482.t13.toNat).Kind) == ((nth a1 g482.t13.toNat).Kind)) && (((nth a0 g482.t13.toNat).Name).toList == ((nth a1 g482.t13.toNat).Name).toList))))) = true then
      some (.inr (.inl ()))
    else
      some (.inl ⟨(wI (g482.t13 + 1))⟩))))
  else
    some (.inr (.inr ())))
noncomputable def laws_sameEvents (a0 : (List EventT)) (a1 : (List EventT)) : Option Bool :=
  (if (((a0.length : Nat) : Int) != ((a1.length : Nat) : Int)) = true then
    some false
  else
    ((loopF (laws_sameEvents_L1 a0 a1) ⟨0⟩).bind fun y483 =>
    match y483 with
    | .inl p484 =>
      some false
    | .inr p485 =>
      some true))
noncomputable def spec_DrawBranchLess (a0 : (List Int)) : Option ((List EventT) × (List EventT)) :=
  ((spec_l1Cur_stem_o_F (⟨a0, 0, 0⟩ : l1CurT)).bind fun c545 =>
  ((spec_l1Cur_grown_o_F c545.2 c545.1).bind fun c546 =>
  ((spec_l1Cur_grown_o_F c546.2 c545.1).bind fun c547 =>
  some (c546.1, c547.1))))
structure laws_FnCurrent_J4008 where
  t85 : Bool
structure laws_FnCurrent_G1 where
  t97 : Int
  c3 : (List BranchT)
structure laws_FnCurrent_G2 where
  t127 : Int
structure laws_FnCurrent_G3 where
  t23 : Bool
  t133 : Int
structure laws_FnCurrent_P3_0 where
  t23 : Bool
noncomputable def laws_FnCurrent_L3 (c505 : ((List ByteArray) × Bool)) (c524 : ((List ByteArray) × Bool)) (g525 : laws_FnCurrent_G2) (g532 : laws_FnCurrent_G3) : Option (laws_FnCurrent_G3 ⊕ laws_FnCurrent_P3_0) :=
  (if (decide (g532.t133 < ((c505.1.length : Nat) : Int))) = true then
    (guardO (0 ≤ g532.t133 ∧ g532.t133 < ((c505.1.length : Nat) : Int)) <|
    (if g532.t23 = true then
      some (.inl ⟨true, (wI (g532.t133 + 1))⟩)
    else
      some (.inl ⟨((nth c505.1 g532.t133.toNat).toList == (nth c524.1 g525.t127.toNat).toList), (wI (g532.t133 + 1))⟩)))
  else
    some (.inr (⟨g532.t23⟩)))
structure laws_FnCurrent_G4 where
  t23 : Bool
  t146 : Int
structure laws_FnCurrent_P4_0 where
  t23 : Bool
noncomputable def laws_FnCurrent_L4 (c500 : ((List ByteArray) × Bool)) (c524 : ((List ByteArray) × Bool)) (g525 : laws_FnCurrent_G2) (g534 : laws_FnCurrent_G4) : Option (laws_FnCurrent_G4 ⊕ laws_FnCurrent_P4_0) :=
  (if (decide (g534.t146 < ((c500.1.length : Nat) : Int))) = true then
    (guardO (0 ≤ g534.t146 ∧ g534.t146 < ((c500.1.length : Nat) : Int)) <|
    (if g534.t23 = true then
      some (.inl ⟨true, (wI (g534.t146 + 1))⟩)
    else
      some (.inl ⟨((nth c500.1 g534.t146.toNat).toList == (nth c524.1 g525.t127.toNat).toList), (wI (g534.t146 + 1))⟩)))
  else
    some (.inr (⟨g534.t23⟩)))
noncomputable def laws_FnCurrent_L2 (c524 : ((List ByteArray) × Bool)) (c505 : ((List ByteArray) × Bool)) (c500 : ((List ByteArray) × Bool)) (g525 : laws_FnCurrent_G2) : Option (laws_FnCurrent_G2 ⊕ (Unit ⊕ Unit)) :=
  (if (decide (g525.t127 < ((c524.1.length : Nat) : Int))) = true then
    (guardO (0 ≤ g525.t127 ∧ g525.t127 < ((c524.1.length : Nat) : Int)) <|
    ((loopF (laws_FnCurrent_L3 c505 c524 g525) ⟨false, 0⟩).bind fun y533 =>
    ((loopF (laws_FnCurrent_L4 c500 c524 g525) ⟨y533.t23, 0⟩).bind fun y535 =>
    (if (!y535.t23) = true then
      some (.inr (.inl ()))
    else
      some (.inl ⟨(wI (g525.t127 + 1))⟩)))))
  else
    some (.inr (.inr ())))
noncomputable def laws_FnCurrent_L1 (c497 : TellingsT) (c498 : ((List EventT) × Bool)) (c505 : ((List ByteArray) × Bool)) (c500 : ((List ByteArray) × Bool)) (g506 : laws_FnCurrent_G1) : Option (laws_FnCurrent_G1 ⊕ (Unit ⊕ Unit)) :=
  (if (decide (g506.t97 < ((c497.Branches.length : Nat) : Int))) = true then
    (guardO (g506.t97.toNat < g506.c3.length) <|
    (guardO (0 ≤ g506.t97 ∧ g506.t97 < ((g506.c3.length : Nat) : Int)) <|
    (guardO (0 ≤ (wI (((((nth g506.c3 g506.t97.toNat).Events).length : Nat) : Int) - 1)) ∧ (wI (((((nth g506.c3 g506.t97.toNat).Events).length : Nat) : Int) - 1)) < ((((nth g506.c3 g506.t97.toNat).Events).length : Nat) : Int)) <|
    (guardO (0 ≤ (wI (((c498.1.length : Nat) : Int) - 1)) ∧ (wI (((c498.1.length : Nat) : Int) - 1)) < ((c498.1.length : Nat) : Int)) <|
    (if (decide (((nth ((nth g506.c3 g506.t97.toNat).Events) ((wI (((((nth g506.c3 g506.t97.toNat).Events).length : Nat) : Int) - 1)).toNat)).Version) > ((nth c498.1 ((wI (((c498.1.length : Nat) : Int) - 1)).toNat)).Version))) = true then
      some (.inr (.inl ()))
    else
      ((impl_SignalsIn ((nth g506.c3 g506.t97.toNat).Events)).bind fun c524 =>
      (if (!c524.2) = true then
        some (.inr (.inl ()))
      else
        ((loopF (laws_FnCurrent_L2 c524 c505 c500) ⟨0⟩).bind fun y538 =>
        match y538 with
        | .inl p539 =>
          some (.inr (.inl ()))
        | .inr p540 =>
          some (.inl ⟨(wI (g506.t97 + 1)), (g506.c3.set g506.t97.toNat (nth g506.c3 g506.t97.toNat))⟩)))))))))
  else
    some (.inr (.inr ())))
structure laws_FnCurrent_J4044 where
  t185 : Bool
noncomputable def laws_FnCurrent (a0 : (List Int)) (a1 : (List Int)) : Option Bool :=
  (if (decide ((wI (((a0.length : Nat) : Int) + ((a1.length : Nat) : Int))) > 1048576)) = true then
    some true
  else
    ((spec_DrawCurrentOf a0).bind fun c497 =>
    ((impl_CurrentOf c497).bind fun c498 =>
    ((spec_CurrentOf c497).bind fun c499 =>
    ((impl_LostSignals c497).bind fun c500 =>
    ((spec_LostSignals c497).bind fun c501 =>
    (((if (!(c498.2 == c499.2)) = true then
        some (⟨true⟩ : laws_FnCurrent_J4008)
      else
        ((laws_sameEvents c498.1 c499.1).bind fun c502 =>
        (if (!c502) = true then
          some (⟨true⟩ : laws_FnCurrent_J4008)
        else
          (if (!(c500.2 == c501.2)) = true then
            some (⟨true⟩ : laws_FnCurrent_J4008)
          else
            ((laws_sameTexts c500.1 c501.1).bind fun c503 =>
            some (⟨(!c503)⟩ : laws_FnCurrent_J4008)))))) : Option laws_FnCurrent_J4008).bind fun p504 =>
    (if p504.t85 = true then
      some false
    else
      (((if c498.2 = true then
          ((impl_SignalsIn c498.1).bind fun c505 =>
          (if (!c505.2) = true then
            some (.inr false)
          else
            ((loopF (laws_FnCurrent_L1 c497 c498 c505 c500) ⟨0, c497.Branches⟩).bind fun y541 =>
            match y541 with
            | .inl p542 =>
              some (.inr false)
            | .inr p543 =>
              some (.inl (() : Unit)))))
        else
          some (.inl (() : Unit))) : Option (Unit ⊕ Bool)).bind fun q => match q with
      | .inl p544 =>
        ((spec_DrawBranchLess a1).bind fun c548 =>
        ((impl_BranchLess c548.1 c548.2).bind fun c553 =>
        ((spec_BranchLess c548.1 c548.2).bind fun c558 =>
        (((if (!(c553.2 == c558.2)) = true then
            some (⟨true⟩ : laws_FnCurrent_J4044)
          else
            some (⟨(!(c553.1 == c558.1))⟩ : laws_FnCurrent_J4044)) : Option laws_FnCurrent_J4044).bind fun p559 =>
        (if p559.t185 = true then
          some false
        else
          (if (!c553.2) = true then
            some (!c553.1)
          else
            ((impl_BranchLess c548.2 c548.1).bind fun c560 =>
            ((spec_PartAt c548.1 c548.2).bind fun c565 =>
            (if c560.2 = true then
              (if c565.2 = true then
                (if c553.1 = true then
                  (if (!c560.1) = true then
                    (if c553.1 = true then
                      ((laws_sameEvents c548.1 c548.2).bind fun c566 =>
                      (if (true == (!c566)) = true then
                        (guardO (0 ≤ c565.1 ∧ c565.1 ≤ (c548.1.length : Int)) <|
                        (guardO (0 ≤ c565.1 ∧ c565.1 ≤ (c548.2.length : Int)) <|
                        ((laws_sameEvents (c548.1.take c565.1.toNat) (c548.2.take c565.1.toNat)).bind fun c567 =>
                        some c567)))
                      else
                        some false))
                    else
                      ((laws_sameEvents c548.1 c548.2).bind fun c568 =>
                      (if (c560.1 == (!c568)) = true then
                        (guardO (0 ≤ c565.1 ∧ c565.1 ≤ (c548.1.length : Int)) <|
                        (guardO (0 ≤ c565.1 ∧ c565.1 ≤ (c548.2.length : Int)) <|
                        ((laws_sameEvents (c548.1.take c565.1.toNat) (c548.2.take c565.1.toNat)).bind fun c569 =>
                        some c569)))
                      else
                        some false)))
                  else
                    some false)
                else
                  (if c553.1 = true then
                    ((laws_sameEvents c548.1 c548.2).bind fun c570 =>
                    (if (true == (!c570)) = true then
                      (guardO (0 ≤ c565.1 ∧ c565.1 ≤ (c548.1.length : Int)) <|
                      (guardO (0 ≤ c565.1 ∧ c565.1 ≤ (c548.2.length : Int)) <|
                      ((laws_sameEvents (c548.1.take c565.1.toNat) (c548.2.take c565.1.toNat)).bind fun c571 =>
                      some c571)))
                    else
                      some false))
                  else
                    ((laws_sameEvents c548.1 c548.2).bind fun c572 =>
                    (if (c560.1 == (!c572)) = true then
                      (guardO (0 ≤ c565.1 ∧ c565.1 ≤ (c548.1.length : Int)) <|
                      (guardO (0 ≤ c565.1 ∧ c565.1 ≤ (c548.2.length : Int)) <|
                      ((laws_sameEvents (c548.1.take c565.1.toNat) (c548.2.take c565.1.toNat)).bind fun c573 =>
                      some c573)))
                    else
                      some false))))
              else
                some false)
            else
              some false)))))))))
      | .inr v => some v)))))))))
end Go.TL
namespace Go.TL
end Go.TL
namespace Go.TL
end Go.TL

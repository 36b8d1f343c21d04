import Derived.Test.YtjhcfmcdllfmpaaG21PlR3M
set_option linter.unusedSimpArgs false
set_option linter.unusedVariables false
namespace Go.TL
structure MoveT where
  From : Int
  To : Int
  Many : Int
  deriving DecidableEq, Inhabited
structure SagaT where
  Accounts : (List Int)
  Moves : (List MoveT)
  Done : Int
  Undoing : Bool
  deriving DecidableEq, Inhabited
structure spec_l9Accounts_G1 where
  t7 : Int
noncomputable def spec_l9Accounts_L1 (a0 : (List Int)) (g23 : spec_l9Accounts_G1) : Option (spec_l9Accounts_G1 ⊕ (Unit ⊕ Unit)) :=
  (if (decide (g23.t7 < ((a0.length : Nat) : Int))) = true then
    (guardO (0 ≤ g23.t7 ∧ g23.t7 < (a0.length : Int)) <|
    ((spec_l1In (nth a0 g23.t7.toNat) 0 1000000).bind fun c25 =>
    (if (!c25) = true then
      some (.inr (.inl ()))
    else
      some (.inl ⟨(wI (g23.t7 + 1))⟩))))
  else
    some (.inr (.inr ())))
noncomputable def spec_l9Accounts (a0 : (List Int)) : Option Bool :=
  ((loopF (spec_l9Accounts_L1 a0) ⟨0⟩).bind fun y26 =>
  match y26 with
  | .inl p27 =>
    some false
  | .inr p28 =>
    ((spec_l1In ((a0.length : Nat) : Int) 1 8).bind fun c29 =>
    some c29))
noncomputable def spec_l9Move (a0 : MoveT) (a1 : Int) : Option Bool :=
  ((spec_l1In a0.From 0 (wI (a1 - 1))).bind fun c35 =>
  (if c35 = true then
    ((spec_l1In a0.To 0 (wI (a1 - 1))).bind fun c36 =>
    (if c36 = true then
      (if (a0.From != a0.To) = true then
        ((spec_l1In a0.Many 1 1000).bind fun c37 =>
        some c37)
      else
        some false)
    else
      some false))
  else
    some false))
noncomputable def spec_l9Back (a0 : MoveT) : Option MoveT :=
  some (⟨a0.To, a0.From, a0.Many⟩ : MoveT)
noncomputable def spec_l9Do (a0 : (List Int)) (a1 : MoveT) : Option ((List Int) × Bool) :=
  (guardO (a0.length * 8 ≤ 140737488355328) <|
  (guardO (0 ≤ a1.From ∧ a1.From < ((a0.length : Nat) : Int)) <|
  (guardO (0 ≤ a1.From ∧ a1.From < ((a0.length : Nat) : Int)) <|
  (guardO (0 ≤ a1.To ∧ a1.To < ((a0.length : Nat) : Int)) <|
  (guardO (0 ≤ a1.To ∧ a1.To < ((a0.length : Nat) : Int)) <|
  (guardO (0 ≤ a1.From ∧ a1.From < ((a0.length : Nat) : Int)) <|
  (if (decide ((nth (((([]) ++ a0).set a1.From.toNat (wI ((nth (([]) ++ a0) a1.From.toNat) - a1.Many))).set a1.To.toNat (wI ((nth ((([]) ++ a0).set a1.From.toNat (wI ((nth (([]) ++ a0) a1.From.toNat) - a1.Many))) a1.To.toNat) + a1.Many))) a1.From.toNat) ≥ 0)) = true then
    (guardO (0 ≤ a1.To ∧ a1.To < ((a0.length : Nat) : Int)) <|
    some ((((([]) ++ a0).set a1.From.toNat (wI ((nth (([]) ++ a0) a1.From.toNat) - a1.Many))).set a1.To.toNat (wI ((nth ((([]) ++ a0).set a1.From.toNat (wI ((nth (([]) ++ a0) a1.From.toNat) - a1.Many))) a1.To.toNat) + a1.Many))), (decide ((nth (((([]) ++ a0).set a1.From.toNat (wI ((nth (([]) ++ a0) a1.From.toNat) - a1.Many))).set a1.To.toNat (wI ((nth ((([]) ++ a0).set a1.From.toNat (wI ((nth (([]) ++ a0) a1.From.toNat) - a1.Many))) a1.To.toNat) + a1.Many))) a1.To.toNat) ≤ 1000000))))
  else
    some ((((([]) ++ a0).set a1.From.toNat (wI ((nth (([]) ++ a0) a1.From.toNat) - a1.Many))).set a1.To.toNat (wI ((nth ((([]) ++ a0).set a1.From.toNat (wI ((nth (([]) ++ a0) a1.From.toNat) - a1.Many))) a1.To.toNat) + a1.Many))), false))))))))
noncomputable def spec_l9Do_F (a0 : (List Int)) (a1 : MoveT) : Option ((List Int) × Bool) :=
  (guardO (a0.length * 8 ≤ 140737488355328) <|
  (guardO (0 ≤ a1.From ∧ a1.From < ((a0.length : Nat) : Int)) <|
  (guardO (0 ≤ a1.From ∧ a1.From < ((a0.length : Nat) : Int)) <|
  (guardO (0 ≤ a1.To ∧ a1.To < ((a0.length : Nat) : Int)) <|
  (guardO (0 ≤ a1.To ∧ a1.To < ((a0.length : Nat) : Int)) <|
  (guardO (0 ≤ a1.From ∧ a1.From < ((a0.length : Nat) : Int)) <|
  (if (decide ((nth (((([]) ++ a0).set a1.From.toNat (wI ((nth (([]) ++ a0) a1.From.toNat) - a1.Many))).set a1.To.toNat (wI ((nth ((([]) ++ a0).set a1.From.toNat (wI ((nth (([]) ++ a0) a1.From.toNat) - a1.Many))) a1.To.toNat) + a1.Many))) a1.From.toNat) ≥ 0)) = true then
    (guardO (0 ≤ a1.To ∧ a1.To < ((a0.length : Nat) : Int)) <|
    some ((((([]) ++ a0).set a1.From.toNat (wI ((nth (([]) ++ a0) a1.From.toNat) - a1.Many))).set a1.To.toNat (wI ((nth ((([]) ++ a0).set a1.From.toNat (wI ((nth (([]) ++ a0) a1.From.toNat) - a1.Many))) a1.To.toNat) + a1.Many))), (decide ((nth (((([]) ++ a0).set a1.From.toNat (wI ((nth (([]) ++ a0) a1.From.toNat) - a1.Many))).set a1.To.toNat (wI ((nth ((([]) ++ a0).set a1.From.toNat (wI ((nth (([]) ++ a0) a1.From.toNat) - a1.Many))) a1.To.toNat) + a1.Many))) a1.To.toNat) ≤ 1000000))))
  else
    some ((((([]) ++ a0).set a1.From.toNat (wI ((nth (([]) ++ a0) a1.From.toNat) - a1.Many))).set a1.To.toNat (wI ((nth ((([]) ++ a0).set a1.From.toNat (wI ((nth (([]) ++ a0) a1.From.toNat) - a1.Many))) a1.To.toNat) + a1.Many))), false))))))))
structure spec_GoodSaga_J4001 where
  t27 : Bool
structure spec_GoodSaga_G1 where
  t31 : Int
noncomputable def spec_GoodSaga_L1 (a0 : SagaT) (g49 : spec_GoodSaga_G1) : Option (spec_GoodSaga_G1 ⊕ (Unit ⊕ Unit)) :=
  (if (decide (g49.t31 < ((a0.Moves.length : Nat) : Int))) = true then
    (guardO (0 ≤ g49.t31 ∧ g49.t31 < (a0.Moves.length : Int)) <|
    ((spec_l9Move (nth a0.Moves g49.t31.toNat) ((a0.Accounts.length : Nat) : Int)).bind fun c51 =>
    (if (!c51) = true then
      some (.inr (.inl ()))
    else
      some (.inl ⟨(wI (g49.t31 + 1))⟩))))
  else
    some (.inr (.inr ())))
structure spec_GoodSaga_G2 where
  t5 : (List Int)
  t6 : Int
noncomputable def spec_GoodSaga_L2 (a0 : SagaT) (g55 : spec_GoodSaga_G2) : Option (spec_GoodSaga_G2 ⊕ (Unit ⊕ Unit)) :=
  (if (decide (g55.t6 ≥ 0)) = true then
    (guardO (0 ≤ g55.t6 ∧ g55.t6 < (a0.Moves.length : Int)) <|
    ((spec_l9Back (nth a0.Moves g55.t6.toNat)).bind fun c58 =>
    ((spec_l9Do_F g55.t5 c58).bind fun c59 =>
    (if (!c59.2) = true then
      some (.inr (.inl ()))
    else
      some (.inl ⟨c59.1, (wI (g55.t6 - 1))⟩)))))
  else
    some (.inr (.inr ())))
noncomputable def spec_GoodSaga (a0 : SagaT) : Option Bool :=
  ((((spec_l9Accounts a0.Accounts).bind fun c46 =>
    (if (!c46) = true then
      some (⟨true⟩ : spec_GoodSaga_J4001)
    else
      (if (decide (((a0.Moves.length : Nat) : Int) > 20)) = true then
        some (⟨true⟩ : spec_GoodSaga_J4001)
      else
        ((spec_l1In a0.Done 0 ((a0.Moves.length : Nat) : Int)).bind fun c47 =>
        some (⟨(!c47)⟩ : spec_GoodSaga_J4001))))) : Option spec_GoodSaga_J4001).bind fun p48 =>
  (if p48.t27 = true then
    some false
  else
    ((loopF (spec_GoodSaga_L1 a0) ⟨0⟩).bind fun y52 =>
    match y52 with
    | .inl p53 =>
      some false
    | .inr p54 =>
      ((loopF (spec_GoodSaga_L2 a0) ⟨a0.Accounts, (wI (a0.Done - 1))⟩).bind fun y60 =>
      match y60 with
      | .inl p61 =>
        some false
      | .inr p62 =>
        some true))))
noncomputable def spec_l9Own (a0 : SagaT) : Option SagaT :=
  (guardO (a0.Accounts.length * 8 ≤ 140737488355328) <|
  (guardO (a0.Moves.length * 24 ≤ 140737488355328) <|
  some (⟨(([]) ++ a0.Accounts), (([]) ++ a0.Moves), a0.Done, a0.Undoing⟩ : SagaT)))
noncomputable def spec_NewSaga (a0 : (List Int)) (a1 : (List MoveT)) : Option (SagaT × Bool) :=
  ((spec_GoodSaga (⟨a0, a1, 0, false⟩ : SagaT)).bind fun c71 =>
  (if (!c71) = true then
    some ((⟨[], [], 0, false⟩ : SagaT), false)
  else
    ((spec_l9Own (⟨a0, a1, 0, false⟩ : SagaT)).bind fun c72 =>
    some (c72, true))))
noncomputable def spec_l9Step_ww (a0 : SagaT) : Option (SagaT × Bool) :=
  (if a0.Undoing = true then
    (if (a0.Done == 0) = true then
      some (a0, false)
    else
      (guardO (0 ≤ (wI (a0.Done - 1)) ∧ (wI (a0.Done - 1)) < ((a0.Moves.length : Nat) : Int)) <|
      ((spec_l9Back (nth a0.Moves ((wI (a0.Done - 1)).toNat))).bind fun c82 =>
      ((spec_l9Do a0.Accounts c82).bind fun c83 =>
      some ((⟨c83.1, a0.Moves, (wI (a0.Done - 1)), a0.Undoing⟩ : SagaT), true)))))
  else
    (if (a0.Done == ((a0.Moves.length : Nat) : Int)) = true then
      some (a0, false)
    else
      (guardO (0 ≤ a0.Done ∧ a0.Done < ((a0.Moves.length : Nat) : Int)) <|
      ((spec_l9Do a0.Accounts (nth a0.Moves a0.Done.toNat)).bind fun c84 =>
      (if (!c84.2) = true then
        some ((⟨a0.Accounts, a0.Moves, a0.Done, true⟩ : SagaT), true)
      else
        some ((⟨c84.1, a0.Moves, (wI (a0.Done + 1)), a0.Undoing⟩ : SagaT), true))))))
structure spec_StepSaga_J4004 where
  t22 : Bool
noncomputable def spec_StepSaga (a0 : SagaT) : Option (SagaT × Bool) :=
  ((spec_GoodSaga a0).bind fun c77 =>
  (if (!c77) = true then
    some ((⟨[], [], 0, false⟩ : SagaT), false)
  else
    ((spec_l9Own a0).bind fun c78 =>
    ((spec_l9Step_ww c78).bind fun c85 =>
    (((if (!c85.2) = true then
        some (⟨true⟩ : spec_StepSaga_J4004)
      else
        ((spec_GoodSaga (⟨c85.1.Accounts, c78.Moves, c85.1.Done, c85.1.Undoing⟩ : SagaT)).bind fun c86 =>
        some (⟨(!c86)⟩ : spec_StepSaga_J4004))) : Option spec_StepSaga_J4004).bind fun p87 =>
    (if p87.t22 = true then
      some ((⟨[], [], 0, false⟩ : SagaT), false)
    else
      some ((⟨c85.1.Accounts, c78.Moves, c85.1.Done, c85.1.Undoing⟩ : SagaT), true)))))))
structure spec_FailSaga_J4001 where
  t18 : Bool
noncomputable def spec_FailSaga (a0 : SagaT) : Option (SagaT × Bool) :=
  ((((spec_GoodSaga a0).bind fun c90 =>
    (if (!c90) = true then
      some (⟨true⟩ : spec_FailSaga_J4001)
    else
      (if a0.Undoing = true then
        some (⟨true⟩ : spec_FailSaga_J4001)
      else
        some (⟨(a0.Done == ((a0.Moves.length : Nat) : Int))⟩ : spec_FailSaga_J4001)))) : Option spec_FailSaga_J4001).bind fun p91 =>
  (if p91.t18 = true then
    some ((⟨[], [], 0, false⟩ : SagaT), false)
  else
    ((spec_l9Own a0).bind fun c92 =>
    some ((⟨c92.Accounts, c92.Moves, c92.Done, true⟩ : SagaT), true))))
structure spec_l1Cur_saga_o_G1 where
  t4 : Int
  b0_0 : (List Int)
  b0_1 : Int
  b0_2 : Int
  c2 : (List Int)
structure spec_l1Cur_saga_o_P1_0 where
  b0_0 : (List Int)
  b0_1 : Int
  b0_2 : Int
  c2 : (List Int)
noncomputable def spec_l1Cur_saga_o_L1 (g6 : spec_l1Cur_saga_o_G1) : Option (spec_l1Cur_saga_o_G1 ⊕ spec_l1Cur_saga_o_P1_0) :=
  (if (decide (g6.t4 > 0)) = true then
    ((spec_l1Cur_pick_o (⟨g6.b0_0, g6.b0_1, g6.b0_2⟩ : l1CurT) 60).bind fun c8 =>
    (guardO ((g6.c2.length + 1) * 8 ≤ 140737488355328) <|
    some (.inl ⟨(wI (g6.t4 - 1)), c8.2.code, c8.2.at_, c8.2.seed, (g6.c2 ++ ([c8.1]))⟩)))
  else
    some (.inr (⟨g6.b0_0, g6.b0_1, g6.b0_2, g6.c2⟩)))
structure spec_l1Cur_saga_o_J2031 where
  t6 : Int
  b0_0 : (List Int)
  b0_1 : Int
  b0_2 : Int
structure spec_l1Cur_saga_o_G2 where
  t6 : Int
  b0_0 : (List Int)
  b0_1 : Int
  b0_2 : Int
  c3 : (List MoveT)
structure spec_l1Cur_saga_o_P2_0 where
  b0_0 : (List Int)
  b0_1 : Int
  b0_2 : Int
  c3 : (List MoveT)
noncomputable def spec_l1Cur_saga_o_L2 (y9 : spec_l1Cur_saga_o_P1_0) (g15 : spec_l1Cur_saga_o_G2) : Option (spec_l1Cur_saga_o_G2 ⊕ spec_l1Cur_saga_o_P2_0) :=
  (if (decide (g15.t6 > 0)) = true then
    (if (decide (((y9.c2.length : Nat) : Int) > 1)) = true then
      ((spec_l1Cur_pick_o (⟨g15.b0_0, g15.b0_1, g15.b0_2⟩ : l1CurT) ((y9.c2.length : Nat) : Int)).bind fun c19 =>
      ((spec_l1Cur_pick_o c19.2 (wI (((y9.c2.length : Nat) : Int) - 1))).bind fun c20 =>
      (guardO (((y9.c2.length : Nat) : Int) ≠ 0) <|
      ((spec_l1Cur_pick_o c20.2 25).bind fun c21 =>
      (guardO ((g15.c3.length + 1) * 24 ≤ 140737488355328) <|
      some (.inl ⟨(wI (g15.t6 - 1)), c21.2.code, c21.2.at_, c21.2.seed, (g15.c3 ++ ([(⟨c19.1, ((wI ((wI (c19.1 + 1)) + c20.1)).tmod ((y9.c2.length : Nat) : Int)), (wI (1 + c21.1))⟩ : MoveT)]))⟩))))))
    else
      some (.inr (⟨g15.b0_0, g15.b0_1, g15.b0_2, g15.c3⟩)))
  else
    some (.inr (⟨g15.b0_0, g15.b0_1, g15.b0_2, g15.c3⟩)))
structure spec_l1Cur_saga_o_J2075 where
  b2_2 : Int
  b2_3 : Bool
  c3 : (List Int)
  c4 : (List MoveT)
structure spec_l1Cur_saga_o_G3 where
  t11 : Int
  b0_0 : (List Int)
  b0_1 : Int
  b0_2 : Int
  b2_2 : Int
  b2_3 : Bool
  c3 : (List Int)
  c4 : (List MoveT)
structure spec_l1Cur_saga_o_P3_0 where
  b0_0 : (List Int)
  b0_1 : Int
  b0_2 : Int
  b2_2 : Int
  b2_3 : Bool
  c3 : (List Int)
  c4 : (List MoveT)
structure spec_l1Cur_saga_o_J12090 where
  b2_2 : Int
  b2_3 : Bool
  c3 : (List Int)
  c4 : (List MoveT)
structure spec_l1Cur_saga_o_J14025 where
  t101 : Bool
  b0_0 : (List Int)
  b0_1 : Int
  b0_2 : Int
noncomputable def spec_l1Cur_saga_o_L3 (g76 : spec_l1Cur_saga_o_G3) : Option (spec_l1Cur_saga_o_G3 ⊕ spec_l1Cur_saga_o_P3_0) :=
  (if (decide (g76.t11 > 0)) = true then
    ((((spec_StepSaga (⟨g76.c3, g76.c4, g76.b2_2, g76.b2_3⟩ : SagaT)).bind fun c96 =>
      (if c96.2 = true then
        some (⟨c96.1.Done, c96.1.Undoing, c96.1.Accounts, c96.1.Moves⟩ : spec_l1Cur_saga_o_J12090)
      else
        some (⟨g76.b2_2, g76.b2_3, g76.c3, g76.c4⟩ : spec_l1Cur_saga_o_J12090))) : Option spec_l1Cur_saga_o_J12090).bind fun p97 =>
    ((spec_FailSaga (⟨p97.c3, p97.c4, p97.b2_2, p97.b2_3⟩ : SagaT)).bind fun c98 =>
    (((if c98.2 = true then
        ((spec_l1Cur_one_o (⟨g76.b0_0, g76.b0_1, g76.b0_2⟩ : l1CurT) 8).bind fun c99 =>
        some (⟨c99.1, c99.2.code, c99.2.at_, c99.2.seed⟩ : spec_l1Cur_saga_o_J14025))
      else
        some (⟨false, g76.b0_0, g76.b0_1, g76.b0_2⟩ : spec_l1Cur_saga_o_J14025)) : Option spec_l1Cur_saga_o_J14025).bind fun p100 =>
    (if p100.t101 = true then
      some (.inl ⟨(wI (g76.t11 - 1)), p100.b0_0, p100.b0_1, p100.b0_2, c98.1.Done, c98.1.Undoing, c98.1.Accounts, c98.1.Moves⟩)
    else
      some (.inl ⟨(wI (g76.t11 - 1)), p100.b0_0, p100.b0_1, p100.b0_2, p97.b2_2, p97.b2_3, p97.c3, p97.c4⟩)))))
  else
    some (.inr (⟨g76.b0_0, g76.b0_1, g76.b0_2, g76.b2_2, g76.b2_3, g76.c3, g76.c4⟩)))
noncomputable def spec_l1Cur_saga_o (a0 : l1CurT) : Option (SagaT × l1CurT) :=
  ((spec_l1Cur_pick_o a0 4).bind fun c5 =>
  ((loopF (spec_l1Cur_saga_o_L1) ⟨(wI (1 + c5.1)), c5.2.code, c5.2.at_, c5.2.seed, []⟩).bind fun y9 =>
  ((spec_l1Cur_pick_o (⟨y9.b0_0, y9.b0_1, y9.b0_2⟩ : l1CurT) 8).bind fun c10 =>
  ((((spec_l1Cur_one_o c10.2 20).bind fun c12 =>
    (if c12.1 = true then
      ((spec_l1Cur_pick_o c12.2 2).bind fun c13 =>
      some (⟨(wI (20 + c13.1)), c13.2.code, c13.2.at_, c13.2.seed⟩ : spec_l1Cur_saga_o_J2031))
    else
      some (⟨c10.1, c12.2.code, c12.2.at_, c12.2.seed⟩ : spec_l1Cur_saga_o_J2031))) : Option spec_l1Cur_saga_o_J2031).bind fun p14 =>
  ((loopF (spec_l1Cur_saga_o_L2 y9) ⟨p14.t6, p14.b0_0, p14.b0_1, p14.b0_2, []⟩).bind fun y22 =>
  ((spec_NewSaga y9.c2 y22.c3).bind fun c73 =>
  (((if (!c73.2) = true then
      some (⟨0, false, y9.c2, y22.c3⟩ : spec_l1Cur_saga_o_J2075)
    else
      some (⟨c73.1.Done, c73.1.Undoing, c73.1.Accounts, c73.1.Moves⟩ : spec_l1Cur_saga_o_J2075)) : Option spec_l1Cur_saga_o_J2075).bind fun p74 =>
  ((spec_l1Cur_pick_o (⟨y22.b0_0, y22.b0_1, y22.b0_2⟩ : l1CurT) 6).bind fun c75 =>
  ((loopF (spec_l1Cur_saga_o_L3) ⟨c75.1, c75.2.code, c75.2.at_, c75.2.seed, p74.b2_2, p74.b2_3, p74.c3, p74.c4⟩).bind fun y101 =>
  ((spec_l1Cur_pick_o (⟨y101.b0_0, y101.b0_1, y101.b0_2⟩ : l1CurT) 40).bind fun c102 =>
  (if (c102.1 == 0) = true then
    some ((⟨y101.c3, y101.c4, (wI (y101.b2_2 + 1)), y101.b2_3⟩ : SagaT), c102.2)
  else
    (if (c102.1 == 1) = true then
      ((spec_l1Cur_among_ow c102.2 ([(-1), 1000000, 1000001])).bind fun c104 =>
      (guardO (0 < ((y101.c3.length : Nat) : Int)) <|
      some ((⟨(y101.c3.set 0 c104.1), y101.c4, y101.b2_2, y101.b2_3⟩ : SagaT), c104.2)))
    else
      some ((⟨y101.c3, y101.c4, y101.b2_2, y101.b2_3⟩ : SagaT), c102.2)))))))))))))
structure spec_DrawNewSaga_J4003 where
  t18 : Bool
noncomputable def spec_DrawNewSaga (a0 : (List Int)) : Option ((List Int) × (List MoveT)) :=
  ((spec_l1Cur_saga_o (⟨a0, 0, 0⟩ : l1CurT)).bind fun c214 =>
  ((((spec_l1Cur_one_o c214.2 20).bind fun c215 =>
    (if c215.1 = true then
      some (⟨(decide (((c214.1.Moves.length : Nat) : Int) > 0))⟩ : spec_DrawNewSaga_J4003)
    else
      some (⟨false⟩ : spec_DrawNewSaga_J4003))) : Option spec_DrawNewSaga_J4003).bind fun p216 =>
  (if p216.t18 = true then
    (guardO (0 < ((c214.1.Moves.length : Nat) : Int)) <|
    (guardO (0 < ((c214.1.Moves.length : Nat) : Int)) <|
    some (c214.1.Accounts, (c214.1.Moves.set 0 (⟨(nth c214.1.Moves 0).From, (nth c214.1.Moves 0).From, (nth c214.1.Moves 0).Many⟩ : MoveT)))))
  else
    some (c214.1.Accounts, c214.1.Moves))))
noncomputable def slices_Clone_int (a0 : (List Int)) : Option (List Int) :=
  guardO (a0.length * 8 ≤ 140737488355328) (some a0)
noncomputable def impl_accountOk (a0 : Int) : Option Bool :=
  ((impl_in a0 0 1000000).bind fun c219 =>
  some c219)
noncomputable def impl_moved_F (a0 : (List Int)) (a1 : MoveT) : Option ((List Int) × Bool) :=
  ((slices_Clone_int a0).bind fun c218 =>
  (guardO (0 ≤ a1.From ∧ a1.From < ((c218.length : Nat) : Int)) <|
  (guardO (0 ≤ a1.From ∧ a1.From < ((c218.length : Nat) : Int)) <|
  (guardO (0 ≤ a1.To ∧ a1.To < ((c218.length : Nat) : Int)) <|
  (guardO (0 ≤ a1.To ∧ a1.To < ((c218.length : Nat) : Int)) <|
  (guardO (0 ≤ a1.From ∧ a1.From < ((c218.length : Nat) : Int)) <|
  ((impl_accountOk (nth ((c218.set a1.From.toNat (wI ((nth c218 a1.From.toNat) - a1.Many))).set a1.To.toNat (wI ((nth (c218.set a1.From.toNat (wI ((nth c218 a1.From.toNat) - a1.Many))) a1.To.toNat) + a1.Many))) a1.From.toNat)).bind fun c220 =>
  (if c220 = true then
    (guardO (0 ≤ a1.To ∧ a1.To < ((c218.length : Nat) : Int)) <|
    ((impl_accountOk (nth ((c218.set a1.From.toNat (wI ((nth c218 a1.From.toNat) - a1.Many))).set a1.To.toNat (wI ((nth (c218.set a1.From.toNat (wI ((nth c218 a1.From.toNat) - a1.Many))) a1.To.toNat) + a1.Many))) a1.To.toNat)).bind fun c221 =>
    some (((c218.set a1.From.toNat (wI ((nth c218 a1.From.toNat) - a1.Many))).set a1.To.toNat (wI ((nth (c218.set a1.From.toNat (wI ((nth c218 a1.From.toNat) - a1.Many))) a1.To.toNat) + a1.Many))), c221)))
  else
    some (((c218.set a1.From.toNat (wI ((nth c218 a1.From.toNat) - a1.Many))).set a1.To.toNat (wI ((nth (c218.set a1.From.toNat (wI ((nth c218 a1.From.toNat) - a1.Many))) a1.To.toNat) + a1.Many))), false)))))))))
noncomputable def impl_back (a0 : MoveT) : Option MoveT :=
  some (⟨a0.To, a0.From, a0.Many⟩ : MoveT)
noncomputable def impl_accountsOk_c1 (a0 : Int) : Option Bool :=
  ((impl_accountOk a0).bind fun c224 =>
  some (!c224))
structure slices_IndexFunc_int_impl_accountsOk_c1_G1 where
  t8 : Int
structure slices_IndexFunc_int_impl_accountsOk_c1_P1_0 where
  t4 : Int
noncomputable def slices_IndexFunc_int_impl_accountsOk_c1_L1 (a0 : (List Int)) (g223 : slices_IndexFunc_int_impl_accountsOk_c1_G1) : Option (slices_IndexFunc_int_impl_accountsOk_c1_G1 ⊕ (slices_IndexFunc_int_impl_accountsOk_c1_P1_0 ⊕ Unit)) :=
  (if (decide (g223.t8 < ((a0.length : Nat) : Int))) = true then
    (guardO (0 ≤ g223.t8 ∧ g223.t8 < (a0.length : Int)) <|
    ((impl_accountsOk_c1 (nth a0 g223.t8.toNat)).bind fun c226 =>
    (if c226 = true then
      some (.inr (.inl (⟨g223.t8⟩)))
    else
      some (.inl ⟨(wI (g223.t8 + 1))⟩))))
  else
    some (.inr (.inr ())))
noncomputable def slices_IndexFunc_int_impl_accountsOk_c1 (a0 : (List Int)) : Option Int :=
  ((loopF (slices_IndexFunc_int_impl_accountsOk_c1_L1 a0) ⟨0⟩).bind fun y227 =>
  match y227 with
  | .inl p228 =>
    some p228.t4
  | .inr p229 =>
    some (-1))
noncomputable def slices_ContainsFunc_int_impl_accountsOk_c1 (a0 : (List Int)) : Option Bool :=
  ((slices_IndexFunc_int_impl_accountsOk_c1 a0).bind fun c230 =>
  some (decide (c230 ≥ 0)))
noncomputable def impl_accountsOk (a0 : (List Int)) : Option Bool :=
  ((impl_in ((a0.length : Nat) : Int) 1 8).bind fun c222 =>
  (if c222 = true then
    ((slices_ContainsFunc_int_impl_accountsOk_c1 a0).bind fun c231 =>
    some (!c231))
  else
    some false))
noncomputable def impl_moveOk (a0 : MoveT) (a1 : Int) : Option Bool :=
  ((impl_in a0.From 0 (wI (a1 - 1))).bind fun c233 =>
  (if c233 = true then
    ((impl_in a0.To 0 (wI (a1 - 1))).bind fun c234 =>
    (if c234 = true then
      (if (a0.From != a0.To) = true then
        ((impl_in a0.Many 1 1000).bind fun c235 =>
        some c235)
      else
        some false)
    else
      some false))
  else
    some false))
noncomputable def impl_GoodSaga_c1_r (a0 : MoveT) (a1 : SagaT) : Option Bool :=
  ((impl_moveOk a0 ((a1.Accounts.length : Nat) : Int)).bind fun c236 =>
  some (!c236))
structure slices_IndexFunc_impl_Move_impl_GoodSaga_c1r_G1 where
  t8 : Int
structure slices_IndexFunc_impl_Move_impl_GoodSaga_c1r_P1_0 where
  t4 : Int
noncomputable def slices_IndexFunc_impl_Move_impl_GoodSaga_c1r_L1 (a0 : (List MoveT)) (a1 : SagaT) (g232 : slices_IndexFunc_impl_Move_impl_GoodSaga_c1r_G1) : Option (slices_IndexFunc_impl_Move_impl_GoodSaga_c1r_G1 ⊕ (slices_IndexFunc_impl_Move_impl_GoodSaga_c1r_P1_0 ⊕ Unit)) :=
  (if (decide (g232.t8 < ((a0.length : Nat) : Int))) = true then
    (guardO (0 ≤ g232.t8 ∧ g232.t8 < (a0.length : Int)) <|
    ((impl_GoodSaga_c1_r (nth a0 g232.t8.toNat) a1).bind fun c238 =>
    (if c238 = true then
      some (.inr (.inl (⟨g232.t8⟩)))
    else
      some (.inl ⟨(wI (g232.t8 + 1))⟩))))
  else
    some (.inr (.inr ())))
noncomputable def slices_IndexFunc_impl_Move_impl_GoodSaga_c1r (a0 : (List MoveT)) (a1 : SagaT) : Option Int :=
  ((loopF (slices_IndexFunc_impl_Move_impl_GoodSaga_c1r_L1 a0 a1) ⟨0⟩).bind fun y239 =>
  match y239 with
  | .inl p240 =>
    some p240.t4
  | .inr p241 =>
    some (-1))
noncomputable def slices_ContainsFunc_impl_Move_impl_GoodSaga_c1r (a0 : (List MoveT)) (a1 : SagaT) : Option Bool :=
  ((slices_IndexFunc_impl_Move_impl_GoodSaga_c1r a0 a1).bind fun c242 =>
  some (decide (c242 ≥ 0)))
noncomputable def impl_GoodSaga_back : List MoveT → (List Int) → Option Bool
  | [], _ => some true
  | m :: r, now => (impl_back m).bind fun x => (impl_moved_F now x).bind fun c => if c.2 = true then impl_GoodSaga_back r c.1 else some false
noncomputable def impl_GoodSaga (a0 : SagaT) : Option Bool :=
  ((slices_ContainsFunc_impl_Move_impl_GoodSaga_c1r a0.Moves a0).bind fun c1 =>
  ((impl_accountsOk a0.Accounts).bind fun c2 =>
  (if (!c2) = true then
    some false
  else
    (if a0.Moves.length > 20 then
      some false
    else
      (if c1 = true then
        some false
      else
        ((impl_in a0.Done 0 ((a0.Moves.length : Nat) : Int)).bind fun c3 =>
        (if (!c3) = true then
          some false
        else
          (guardO (0 ≤ a0.Done ∧ a0.Done ≤ ((a0.Moves.length : Nat) : Int)) <|
          (impl_GoodSaga_back (a0.Moves.take a0.Done.toNat).reverse a0.Accounts)))))))))
noncomputable def slices_Clone_impl_Move (a0 : (List MoveT)) : Option (List MoveT) :=
  guardO (a0.length * 24 ≤ 140737488355328) (some a0)
noncomputable def impl_cloneSaga (a0 : SagaT) : Option SagaT :=
  ((slices_Clone_int a0.Accounts).bind fun c244 =>
  ((slices_Clone_impl_Move a0.Moves).bind fun c245 =>
  some (⟨c244, c245, a0.Done, a0.Undoing⟩ : SagaT)))
noncomputable def impl_NewSaga (a0 : (List Int)) (a1 : (List MoveT)) : Option (SagaT × Bool) :=
  ((impl_GoodSaga (⟨a0, a1, 0, false⟩ : SagaT)).bind fun c243 =>
  (if (!c243) = true then
    some ((⟨[], [], 0, false⟩ : SagaT), false)
  else
    ((impl_cloneSaga (⟨a0, a1, 0, false⟩ : SagaT)).bind fun c246 =>
    some (c246, true))))
structure laws_sameInts_G1 where
  t13 : Int
noncomputable def laws_sameInts_L1 (a0 : (List Int)) (a1 : (List Int)) (g249 : laws_sameInts_G1) : Option (laws_sameInts_G1 ⊕ (Unit ⊕ Unit)) :=
  (if (decide (g249.t13 < ((a0.length : Nat) : Int))) = true then
    (guardO (0 ≤ g249.t13 ∧ g249.t13 < (a0.length : Int)) <|
    (guardO (0 ≤ g249.t13 ∧ g249.t13 < (a1.length : Int)) <|
    (if ((nth a0 g249.t13.toNat) != (nth a1 g249.t13.toNat)) = true then
      some (.inr (.inl ()))
    else
      some (.inl ⟨(wI (g249.t13 + 1))⟩))))
  else
    some (.inr (.inr ())))
noncomputable def laws_sameInts (a0 : (List Int)) (a1 : (List Int)) : Option Bool :=
  (if (((a0.length : Nat) : Int) != ((a1.length : Nat) : Int)) = true then
    some false
  else
    ((loopF (laws_sameInts_L1 a0 a1) ⟨0⟩).bind fun y250 =>
    match y250 with
    | .inl p251 =>
      some false
    | .inr p252 =>
      some true))
structure laws_sameSagas_J4001 where
  t34 : Bool
structure laws_sameSagas_G1 where
  t38 : Int
noncomputable def laws_sameSagas_L1 (a0 : SagaT) (a1 : SagaT) (g255 : laws_sameSagas_G1) : Option (laws_sameSagas_G1 ⊕ (Unit ⊕ Unit)) :=
  (if (decide (g255.t38 < ((a0.Moves.length : Nat) : Int))) = true then
    (guardO (0 ≤ g255.t38 ∧ g255.t38 < (a0.Moves.length : Int)) <|
    (guardO (0 ≤ g255.t38 ∧ g255.t38 < (a1.Moves.length : Int)) <|
    (if (!((((nth a0.Moves g255.t38.toNat).From) == ((nth a1.Moves g255.t38.toNat).From)) && ((((nth a0.Moves g255.t38.toNat).To) == ((nth a1.Moves g255.t38.toNat).To)) && (((nth a0.Moves g255.t38.toNat).Many) == ((nth a1.Moves g255.t38.toNat).Many))))) = true then
      some (.inr (.inl ()))
    else
      some (.inl ⟨(wI (g255.t38 + 1))⟩))))
  else
    some (.inr (.inr ())))
noncomputable def laws_sameSagas (a0 : SagaT) (a1 : SagaT) : Option Bool :=
  (((if (((a0.Moves.length : Nat) : Int) != ((a1.Moves.length : Nat) : Int)) = true then
      some (⟨true⟩ : laws_sameSagas_J4001)
    else
      (if (a0.Done != a1.Done) = true then
        some (⟨true⟩ : laws_sameSagas_J4001)
      else
        (if (!(a0.Undoing == a1.Undoing)) = true then
          some (⟨true⟩ : laws_sameSagas_J4001)
        else
          ((laws_sameInts a0.Accounts a1.Accounts).bind fun c253 =>
          some (⟨(!c253)⟩ : laws_sameSagas_J4001))))) : Option laws_sameSagas_J4001).bind fun p254 =>
  (if p254.t34 = true then
    some false
  else
    ((loopF (laws_sameSagas_L1 a0 a1) ⟨0⟩).bind fun y256 =>
    match y256 with
    | .inl p257 =>
      some false
    | .inr p258 =>
      some true)))
structure laws_numberOf_G1 where
  t3 : Int
  t8 : Int
structure laws_numberOf_P1_0 where
  t3 : Int
noncomputable def laws_numberOf_L1 (a0 : (List Int)) (g261 : laws_numberOf_G1) : Option (laws_numberOf_G1 ⊕ laws_numberOf_P1_0) :=
  (if (decide (g261.t8 < ((a0.length : Nat) : Int))) = true then
    (guardO (0 ≤ g261.t8 ∧ g261.t8 < (a0.length : Int)) <|
    some (.inl ⟨((wI ((wI (31 * g261.t3)) + (wI (nth a0 g261.t8.toNat)))).tmod 1000003), (wI (g261.t8 + 1))⟩))
  else
    some (.inr (⟨g261.t3⟩)))
noncomputable def laws_numberOf (a0 : (List Int)) : Option Int :=
  ((loopF (laws_numberOf_L1 a0) ⟨0, 0⟩).bind fun y262 =>
  some y262.t3)
structure impl_Saga_fail_o_J4001 where
  t18 : Bool
noncomputable def impl_Saga_fail_o (a0 : SagaT) : Option (Bool × SagaT) :=
  (((if a0.Undoing = true then
      some (⟨true⟩ : impl_Saga_fail_o_J4001)
    else
      some (⟨(a0.Done == ((a0.Moves.length : Nat) : Int))⟩ : impl_Saga_fail_o_J4001)) : Option impl_Saga_fail_o_J4001).bind fun p267 =>
  (if p267.t18 = true then
    some (false, a0)
  else
    some (true, (⟨a0.Accounts, a0.Moves, a0.Done, true⟩ : SagaT))))
noncomputable def impl_moved (a0 : (List Int)) (a1 : MoveT) : Option ((List Int) × Bool) :=
  ((slices_Clone_int a0).bind fun c275 =>
  (guardO (0 ≤ a1.From ∧ a1.From < ((c275.length : Nat) : Int)) <|
  (guardO (0 ≤ a1.From ∧ a1.From < ((c275.length : Nat) : Int)) <|
  (guardO (0 ≤ a1.To ∧ a1.To < ((c275.length : Nat) : Int)) <|
  (guardO (0 ≤ a1.To ∧ a1.To < ((c275.length : Nat) : Int)) <|
  (guardO (0 ≤ a1.From ∧ a1.From < ((c275.length : Nat) : Int)) <|
  ((impl_accountOk (nth ((c275.set a1.From.toNat (wI ((nth c275 a1.From.toNat) - a1.Many))).set a1.To.toNat (wI ((nth (c275.set a1.From.toNat (wI ((nth c275 a1.From.toNat) - a1.Many))) a1.To.toNat) + a1.Many))) a1.From.toNat)).bind fun c276 =>
  (if c276 = true then
    (guardO (0 ≤ a1.To ∧ a1.To < ((c275.length : Nat) : Int)) <|
    ((impl_accountOk (nth ((c275.set a1.From.toNat (wI ((nth c275 a1.From.toNat) - a1.Many))).set a1.To.toNat (wI ((nth (c275.set a1.From.toNat (wI ((nth c275 a1.From.toNat) - a1.Many))) a1.To.toNat) + a1.Many))) a1.To.toNat)).bind fun c277 =>
    some (((c275.set a1.From.toNat (wI ((nth c275 a1.From.toNat) - a1.Many))).set a1.To.toNat (wI ((nth (c275.set a1.From.toNat (wI ((nth c275 a1.From.toNat) - a1.Many))) a1.To.toNat) + a1.Many))), c277)))
  else
    some (((c275.set a1.From.toNat (wI ((nth c275 a1.From.toNat) - a1.Many))).set a1.To.toNat (wI ((nth (c275.set a1.From.toNat (wI ((nth c275 a1.From.toNat) - a1.Many))) a1.To.toNat) + a1.Many))), false)))))))))
structure impl_Saga_step_o_J4001 where
  t5 : Bool
noncomputable def impl_Saga_step_o (a0 : SagaT) : Option (Bool × SagaT) :=
  (((if a0.Undoing = true then
      (if (a0.Done == 0) = true then
        some (⟨true⟩ : impl_Saga_step_o_J4001)
      else
        (if (!a0.Undoing) = true then
          some (⟨(a0.Done == ((a0.Moves.length : Nat) : Int))⟩ : impl_Saga_step_o_J4001)
        else
          some (⟨false⟩ : impl_Saga_step_o_J4001)))
    else
      (if (!a0.Undoing) = true then
        some (⟨(a0.Done == ((a0.Moves.length : Nat) : Int))⟩ : impl_Saga_step_o_J4001)
      else
        some (⟨false⟩ : impl_Saga_step_o_J4001))) : Option impl_Saga_step_o_J4001).bind fun p273 =>
  (if p273.t5 = true then
    some (false, a0)
  else
    (if a0.Undoing = true then
      (guardO (0 ≤ (wI (a0.Done - 1)) ∧ (wI (a0.Done - 1)) < ((a0.Moves.length : Nat) : Int)) <|
      ((impl_back (nth a0.Moves ((wI (a0.Done - 1)).toNat))).bind fun c274 =>
      ((impl_moved a0.Accounts c274).bind fun c278 =>
      some (true, (⟨c278.1, a0.Moves, (wI (a0.Done - 1)), a0.Undoing⟩ : SagaT)))))
    else
      (guardO (0 ≤ a0.Done ∧ a0.Done < ((a0.Moves.length : Nat) : Int)) <|
      ((impl_moved a0.Accounts (nth a0.Moves a0.Done.toNat)).bind fun c279 =>
      (if (!c279.2) = true then
        some (true, (⟨a0.Accounts, a0.Moves, a0.Done, true⟩ : SagaT))
      else
        some (true, (⟨c279.1, a0.Moves, (wI (a0.Done + 1)), a0.Undoing⟩ : SagaT))))))))
structure impl_RunSaga_c1_ooo_G1 where
  b0_2 : Int
  b0_3 : Bool
  b3_0 : Int
  c5 : (List Int)
structure impl_RunSaga_c1_ooo_P1_0 where
  b0_2 : Int
  b0_3 : Bool
  b3_0 : Int
  c5 : (List Int)
noncomputable def impl_RunSaga_c1_ooo_L1 (a2 : Int) (a0 : SagaT) (g271 : impl_RunSaga_c1_ooo_G1) : Option (impl_RunSaga_c1_ooo_G1 ⊕ impl_RunSaga_c1_ooo_P1_0) :=
  (if (g271.b3_0 == a2) = true then
    ((impl_Saga_fail_o (⟨g271.c5, a0.Moves, g271.b0_2, g271.b0_3⟩ : SagaT)).bind fun c282 =>
    (if c282.1 = true then
      some (.inl ⟨c282.2.Done, c282.2.Undoing, (wI (g271.b3_0 + 1)), g271.c5⟩)
    else
      ((impl_Saga_step_o (⟨g271.c5, a0.Moves, c282.2.Done, c282.2.Undoing⟩ : SagaT)).bind fun c283 =>
      (if c283.1 = true then
        some (.inl ⟨c283.2.Done, c283.2.Undoing, (wI (g271.b3_0 + 1)), c283.2.Accounts⟩)
      else
        some (.inr (⟨c283.2.Done, c283.2.Undoing, g271.b3_0, c283.2.Accounts⟩))))))
  else
    ((impl_Saga_step_o (⟨g271.c5, a0.Moves, g271.b0_2, g271.b0_3⟩ : SagaT)).bind fun c284 =>
    (if c284.1 = true then
      some (.inl ⟨c284.2.Done, c284.2.Undoing, (wI (g271.b3_0 + 1)), c284.2.Accounts⟩)
    else
      some (.inr (⟨c284.2.Done, c284.2.Undoing, g271.b3_0, c284.2.Accounts⟩)))))
noncomputable def impl_RunSaga_c1_ooo (a0 : SagaT) (a1 : Int) (a2 : Int) : Option (Bool × SagaT × Int) :=
  ((loopF (impl_RunSaga_c1_ooo_L1 a2 a0) ⟨a0.Done, a0.Undoing, a1, a0.Accounts⟩).bind fun y285 =>
  some (true, (⟨y285.c5, a0.Moves, y285.b0_2, y285.b0_3⟩ : SagaT), y285.b3_0))
noncomputable def impl_changedSaga_impl_RunSaga_c1oo (a0 : SagaT) (a1 : Int) (a2 : Int) : Option (SagaT × Bool × Int) :=
  ((impl_GoodSaga a0).bind fun c269 =>
  (if (!c269) = true then
    some ((⟨[], [], 0, false⟩ : SagaT), false, a1)
  else
    ((impl_cloneSaga a0).bind fun c270 =>
    ((impl_RunSaga_c1_ooo c270 a1 a2).bind fun c286 =>
    (if (!c286.1) = true then
      some ((⟨[], [], 0, false⟩ : SagaT), false, c286.2.2)
    else
      some ((⟨c286.2.1.Accounts, c270.Moves, c286.2.1.Done, c286.2.1.Undoing⟩ : SagaT), true, c286.2.2))))))
noncomputable def impl_RunSaga (a0 : SagaT) (a1 : Int) : Option (SagaT × Int × Bool) :=
  ((impl_changedSaga_impl_RunSaga_c1oo a0 0 a1).bind fun c287 =>
  (if (!c287.2.1) = true then
    some ((⟨[], [], 0, false⟩ : SagaT), 0, false)
  else
    some (c287.1, c287.2.2, true)))
structure impl_IsOver_J4003 where
  t5 : Bool
noncomputable def impl_IsOver (a0 : SagaT) : Option (Bool × Bool × Bool) :=
  ((impl_GoodSaga a0).bind fun c289 =>
  (if (!c289) = true then
    some (false, false, false)
  else
    (((if (!a0.Undoing) = true then
        some (⟨(a0.Done == ((a0.Moves.length : Nat) : Int))⟩ : impl_IsOver_J4003)
      else
        some (⟨false⟩ : impl_IsOver_J4003)) : Option impl_IsOver_J4003).bind fun p290 =>
    (if p290.t5 = true then
      some (true, p290.t5, true)
    else
      (if a0.Undoing = true then
        some ((a0.Done == 0), p290.t5, true)
      else
        some (false, p290.t5, true))))))
structure impl_SumIn_G1 where
  t4 : Int
  t13 : Int
structure impl_SumIn_P1_0 where
  t4 : Int
noncomputable def impl_SumIn_L1 (a0 : SagaT) (g293 : impl_SumIn_G1) : Option (impl_SumIn_G1 ⊕ impl_SumIn_P1_0) :=
  (if (decide (g293.t13 < ((a0.Accounts.length : Nat) : Int))) = true then
    (guardO (0 ≤ g293.t13 ∧ g293.t13 < (a0.Accounts.length : Int)) <|
    some (.inl ⟨(wI (g293.t4 + (nth a0.Accounts g293.t13.toNat))), (wI (g293.t13 + 1))⟩))
  else
    some (.inr (⟨g293.t4⟩)))
noncomputable def impl_SumIn (a0 : SagaT) : Option (Int × Bool) :=
  ((impl_GoodSaga a0).bind fun c292 =>
  (if (!c292) = true then
    some (0, false)
  else
    ((loopF (impl_SumIn_L1 a0) ⟨0, 0⟩).bind fun y294 =>
    some (y294.t4, true))))
noncomputable def spec_DrawGoodSaga (a0 : (List Int)) : Option SagaT :=
  ((spec_l1Cur_saga_o (⟨a0, 0, 0⟩ : l1CurT)).bind fun c301 =>
  some c301.1)
noncomputable def spec_DrawStepSaga (a0 : (List Int)) : Option SagaT :=
  ((spec_DrawGoodSaga a0).bind fun c302 =>
  some c302)
noncomputable def impl_changedSaga_impl_Saga_step (a0 : SagaT) : Option (SagaT × Bool) :=
  ((impl_GoodSaga a0).bind fun c304 =>
  (if (!c304) = true then
    some ((⟨[], [], 0, false⟩ : SagaT), false)
  else
    ((impl_cloneSaga a0).bind fun c305 =>
    ((impl_Saga_step_o c305).bind fun c306 =>
    (if (!c306.1) = true then
      some ((⟨[], [], 0, false⟩ : SagaT), false)
    else
      some ((⟨c306.2.Accounts, c305.Moves, c306.2.Done, c306.2.Undoing⟩ : SagaT), true))))))
noncomputable def impl_StepSaga (a0 : SagaT) : Option (SagaT × Bool) :=
  ((impl_changedSaga_impl_Saga_step a0).bind fun c307 =>
  some (c307.1, c307.2))
structure laws_FnUndone_J4006 where
  t61 : Bool
structure laws_FnUndone_J4013 where
  t133 : Bool
structure laws_FnUndone_J4015 where
  t152 : Bool
structure laws_FnUndone_J4020 where
  t180 : Bool
noncomputable def laws_FnUndone (a0 : (List Int)) (a1 : (List Int)) : Option Bool :=
  (if (decide ((wI (((a0.length : Nat) : Int) + ((a1.length : Nat) : Int))) > 1048576)) = true then
    some true
  else
    ((spec_DrawNewSaga a0).bind fun c217 =>
    ((impl_NewSaga c217.1 c217.2).bind fun c247 =>
    ((spec_NewSaga c217.1 c217.2).bind fun c248 =>
    (((if (!(c247.2 == c248.2)) = true then
        some (⟨true⟩ : laws_FnUndone_J4006)
      else
        ((laws_sameSagas c247.1 c248.1).bind fun c259 =>
        some (⟨(!c259)⟩ : laws_FnUndone_J4006))) : Option laws_FnUndone_J4006).bind fun p260 =>
    (if p260.t61 = true then
      some false
    else
      (((if c247.2 = true then
          ((laws_numberOf a1).bind fun c263 =>
          (guardO ((wI (((c217.2.length : Nat) : Int) + 2)) ≠ 0) <|
          ((impl_RunSaga c247.1 (wI ((c263.tmod (wI (((c217.2.length : Nat) : Int) + 2))) - 1))).bind fun c288 =>
          ((impl_IsOver c288.1).bind fun c291 =>
          ((impl_SumIn c247.1).bind fun c295 =>
          ((impl_SumIn c288.1).bind fun c296 =>
          (((if (!c288.2.2) = true then
              some (⟨true⟩ : laws_FnUndone_J4013)
            else
              (if (!c291.2.2) = true then
                some (⟨true⟩ : laws_FnUndone_J4013)
              else
                (if (!c295.2) = true then
                  some (⟨true⟩ : laws_FnUndone_J4013)
                else
                  (if (!c296.2) = true then
                    some (⟨true⟩ : laws_FnUndone_J4013)
                  else
                    (if (!c291.1) = true then
                      some (⟨true⟩ : laws_FnUndone_J4013)
                    else
                      (if (c295.1 != c296.1) = true then
                        some (⟨true⟩ : laws_FnUndone_J4013)
                      else
                        (if (decide (c288.2.1 > (wI ((wI (2 * ((c217.2.length : Nat) : Int))) + 1)))) = true then
                          some (⟨true⟩ : laws_FnUndone_J4013)
                        else
                          (if (c291.2.1 == c288.1.Undoing) = true then
                            some (⟨(decide (((c217.2.length : Nat) : Int) > 0))⟩ : laws_FnUndone_J4013)
                          else
                            some (⟨false⟩ : laws_FnUndone_J4013))))))))) : Option laws_FnUndone_J4013).bind fun p297 =>
          (if p297.t133 = true then
            some (.inr false)
          else
            (((if (!c291.2.1) = true then
                ((laws_sameInts c288.1.Accounts c217.1).bind fun c298 =>
                (if (!c298) = true then
                  some (⟨true⟩ : laws_FnUndone_J4015)
                else
                  (if c291.2.1 = true then
                    some (⟨(c288.1.Done != ((c217.2.length : Nat) : Int))⟩ : laws_FnUndone_J4015)
                  else
                    some (⟨false⟩ : laws_FnUndone_J4015))))
              else
                (if c291.2.1 = true then
                  some (⟨(c288.1.Done != ((c217.2.length : Nat) : Int))⟩ : laws_FnUndone_J4015)
                else
                  some (⟨false⟩ : laws_FnUndone_J4015))) : Option laws_FnUndone_J4015).bind fun p299 =>
            (if p299.t152 = true then
              some (.inr false)
            else
              some (.inl (() : Unit))))))))))))
        else
          some (.inl (() : Unit))) : Option (Unit ⊕ Bool)).bind fun q => match q with
      | .inl p300 =>
        ((spec_DrawStepSaga a1).bind fun c303 =>
        ((impl_StepSaga c303).bind fun c308 =>
        ((spec_StepSaga c303).bind fun c309 =>
        (((if (!(c308.2 == c309.2)) = true then
            some (⟨true⟩ : laws_FnUndone_J4020)
          else
            ((laws_sameSagas c308.1 c309.1).bind fun c310 =>
            (if (!c310) = true then
              some (⟨true⟩ : laws_FnUndone_J4020)
            else
              ((impl_GoodSaga c303).bind fun c311 =>
              ((spec_GoodSaga c303).bind fun c312 =>
              some (⟨(!(c311 == c312))⟩ : laws_FnUndone_J4020)))))) : Option laws_FnUndone_J4020).bind fun p313 =>
        (if p313.t180 = true then
          some false
        else
          (if (!c308.2) = true then
            some (((c308.1.Accounts.length : Nat) : Int) == 0)
          else
            ((impl_SumIn c303).bind fun c314 =>
            ((impl_SumIn c308.1).bind fun c315 =>
            (if c314.2 = true then
              (if c315.2 = true then
                (if (c314.1 == c315.1) = true then
                  ((impl_GoodSaga c308.1).bind fun c316 =>
                  some c316)
                else
                  some false)
              else
                some false)
            else
              some false)))))))))
      | .inr v => some v)))))))
end Go.TL

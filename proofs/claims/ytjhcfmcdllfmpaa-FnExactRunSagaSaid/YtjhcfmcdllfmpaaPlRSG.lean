import Derived.Test.YtjhcfmcdllfmpaaG21PlR3M
set_option linter.unusedSimpArgs false
set_option linter.unusedVariables false
namespace Go.TL
structure MoveT where
  From : Int
  To : Int
  Many : Int
  deriving DecidableEq, Inhabited
structure SagaT where
  Accounts : (List Int)
  Moves : (List MoveT)
  Done : Int
  Undoing : Bool
  deriving DecidableEq, Inhabited
structure spec_l9Accounts_G1 where
  t7 : Int
noncomputable def spec_l9Accounts_L1 (a0 : (List Int)) (g23 : spec_l9Accounts_G1) : Option (spec_l9Accounts_G1 ⊕ (Unit ⊕ Unit)) :=
  (if (decide (g23.t7 < ((a0.length : Nat) : Int))) = true then
    (guardO (0 ≤ g23.t7 ∧ g23.t7 < (a0.length : Int)) <|
    ((spec_l1In (nth a0 g23.t7.toNat) 0 1000000).bind fun c25 =>
    (if (!c25) = true then
      some (.inr (.inl ()))
    else
      some (.inl ⟨(wI (g23.t7 + 1))⟩))))
  else
    some (.inr (.inr ())))
noncomputable def spec_l9Accounts (a0 : (List Int)) : Option Bool :=
  ((loopF (spec_l9Accounts_L1 a0) ⟨0⟩).bind fun y26 =>
  match y26 with
  | .inl p27 =>
    some false
  | .inr p28 =>
    ((spec_l1In ((a0.length : Nat) : Int) 1 8).bind fun c29 =>
    some c29))
noncomputable def spec_l9Move (a0 : MoveT) (a1 : Int) : Option Bool :=
  ((spec_l1In a0.From 0 (wI (a1 - 1))).bind fun c35 =>
  (if c35 = true then
    ((spec_l1In a0.To 0 (wI (a1 - 1))).bind fun c36 =>
    (if c36 = true then
      (if (a0.From != a0.To) = true then
        ((spec_l1In a0.Many 1 1000).bind fun c37 =>
        some c37)
      else
        some false)
    else
      some false))
  else
    some false))
noncomputable def spec_l9Back (a0 : MoveT) : Option MoveT :=
  some (⟨a0.To, a0.From, a0.Many⟩ : MoveT)
noncomputable def spec_l9Do (a0 : (List Int)) (a1 : MoveT) : Option ((List Int) × Bool) :=
  (guardO (a0.length * 8 ≤ 140737488355328) <|
  (guardO (0 ≤ a1.From ∧ a1.From < ((a0.length : Nat) : Int)) <|
  (guardO (0 ≤ a1.From ∧ a1.From < ((a0.length : Nat) : Int)) <|
  (guardO (0 ≤ a1.To ∧ a1.To < ((a0.length : Nat) : Int)) <|
  (guardO (0 ≤ a1.To ∧ a1.To < ((a0.length : Nat) : Int)) <|
  (guardO (0 ≤ a1.From ∧ a1.From < ((a0.length : Nat) : Int)) <|
  (if (decide ((nth (((([]) ++ a0).set a1.From.toNat (wI ((nth (([]) ++ a0) a1.From.toNat) - a1.Many))).set a1.To.toNat (wI ((nth ((([]) ++ a0).set a1.From.toNat (wI ((nth (([]) ++ a0) a1.From.toNat) - a1.Many))) a1.To.toNat) + a1.Many))) a1.From.toNat) ≥ 0)) = true then
    (guardO (0 ≤ a1.To ∧ a1.To < ((a0.length : Nat) : Int)) <|
    some ((((([]) ++ a0).set a1.From.toNat (wI ((nth (([]) ++ a0) a1.From.toNat) - a1.Many))).set a1.To.toNat (wI ((nth ((([]) ++ a0).set a1.From.toNat (wI ((nth (([]) ++ a0) a1.From.toNat) - a1.Many))) a1.To.toNat) + a1.Many))), (decide ((nth (((([]) ++ a0).set a1.From.toNat (wI ((nth (([]) ++ a0) a1.From.toNat) - a1.Many))).set a1.To.toNat (wI ((nth ((([]) ++ a0).set a1.From.toNat (wI ((nth (([]) ++ a0) a1.From.toNat) - a1.Many))) a1.To.toNat) + a1.Many))) a1.To.toNat) ≤ 1000000))))
  else
    some ((((([]) ++ a0).set a1.From.toNat (wI ((nth (([]) ++ a0) a1.From.toNat) - a1.Many))).set a1.To.toNat (wI ((nth ((([]) ++ a0).set a1.From.toNat (wI ((nth (([]) ++ a0) a1.From.toNat) - a1.Many))) a1.To.toNat) + a1.Many))), false))))))))
noncomputable def spec_l9Do_F (a0 : (List Int)) (a1 : MoveT) : Option ((List Int) × Bool) :=
  (guardO (a0.length * 8 ≤ 140737488355328) <|
  (guardO (0 ≤ a1.From ∧ a1.From < ((a0.length : Nat) : Int)) <|
  (guardO (0 ≤ a1.From ∧ a1.From < ((a0.length : Nat) : Int)) <|
  (guardO (0 ≤ a1.To ∧ a1.To < ((a0.length : Nat) : Int)) <|
  (guardO (0 ≤ a1.To ∧ a1.To < ((a0.length : Nat) : Int)) <|
  (guardO (0 ≤ a1.From ∧ a1.From < ((a0.length : Nat) : Int)) <|
  (if (decide ((nth (((([]) ++ a0).set a1.From.toNat (wI ((nth (([]) ++ a0) a1.From.toNat) - a1.Many))).set a1.To.toNat (wI ((nth ((([]) ++ a0).set a1.From.toNat (wI ((nth (([]) ++ a0) a1.From.toNat) - a1.Many))) a1.To.toNat) + a1.Many))) a1.From.toNat) ≥ 0)) = true then
    (guardO (0 ≤ a1.To ∧ a1.To < ((a0.length : Nat) : Int)) <|
    some ((((([]) ++ a0).set a1.From.toNat (wI ((nth (([]) ++ a0) a1.From.toNat) - a1.Many))).set a1.To.toNat (wI ((nth ((([]) ++ a0).set a1.From.toNat (wI ((nth (([]) ++ a0) a1.From.toNat) - a1.Many))) a1.To.toNat) + a1.Many))), (decide ((nth (((([]) ++ a0).set a1.From.toNat (wI ((nth (([]) ++ a0) a1.From.toNat) - a1.Many))).set a1.To.toNat (wI ((nth ((([]) ++ a0).set a1.From.toNat (wI ((nth (([]) ++ a0) a1.From.toNat) - a1.Many))) a1.To.toNat) + a1.Many))) a1.To.toNat) ≤ 1000000))))
  else
    some ((((([]) ++ a0).set a1.From.toNat (wI ((nth (([]) ++ a0) a1.From.toNat) - a1.Many))).set a1.To.toNat (wI ((nth ((([]) ++ a0).set a1.From.toNat (wI ((nth (([]) ++ a0) a1.From.toNat) - a1.Many))) a1.To.toNat) + a1.Many))), false))))))))
structure spec_GoodSaga_J4001 where
  t27 : Bool
structure spec_GoodSaga_G1 where
  t31 : Int
noncomputable def spec_GoodSaga_L1 (a0 : SagaT) (g49 : spec_GoodSaga_G1) : Option (spec_GoodSaga_G1 ⊕ (Unit ⊕ Unit)) :=
  (if (decide (g49.t31 < ((a0.Moves.length : Nat) : Int))) = true then
    (guardO (0 ≤ g49.t31 ∧ g49.t31 < (a0.Moves.length : Int)) <|
    ((spec_l9Move (nth a0.Moves g49.t31.toNat) ((a0.Accounts.length : Nat) : Int)).bind fun c51 =>
    (if (!c51) = true then
      some (.inr (.inl ()))
    else
      some (.inl ⟨(wI (g49.t31 + 1))⟩))))
  else
    some (.inr (.inr ())))
structure spec_GoodSaga_G2 where
  t5 : (List Int)
  t6 : Int
noncomputable def spec_GoodSaga_L2 (a0 : SagaT) (g55 : spec_GoodSaga_G2) : Option (spec_GoodSaga_G2 ⊕ (Unit ⊕ Unit)) :=
  (if (decide (g55.t6 ≥ 0)) = true then
    (guardO (0 ≤ g55.t6 ∧ g55.t6 < (a0.Moves.length : Int)) <|
    ((spec_l9Back (nth a0.Moves g55.t6.toNat)).bind fun c58 =>
    ((spec_l9Do_F g55.t5 c58).bind fun c59 =>
    (if (!c59.2) = true then
      some (.inr (.inl ()))
    else
      some (.inl ⟨c59.1, (wI (g55.t6 - 1))⟩)))))
  else
    some (.inr (.inr ())))
noncomputable def spec_GoodSaga (a0 : SagaT) : Option Bool :=
  ((((spec_l9Accounts a0.Accounts).bind fun c46 =>
    (if (!c46) = true then
      some (⟨true⟩ : spec_GoodSaga_J4001)
    else
      (if (decide (((a0.Moves.length : Nat) : Int) > 20)) = true then
        some (⟨true⟩ : spec_GoodSaga_J4001)
      else
        ((spec_l1In a0.Done 0 ((a0.Moves.length : Nat) : Int)).bind fun c47 =>
        some (⟨(!c47)⟩ : spec_GoodSaga_J4001))))) : Option spec_GoodSaga_J4001).bind fun p48 =>
  (if p48.t27 = true then
    some false
  else
    ((loopF (spec_GoodSaga_L1 a0) ⟨0⟩).bind fun y52 =>
    match y52 with
    | .inl p53 =>
      some false
    | .inr p54 =>
      ((loopF (spec_GoodSaga_L2 a0) ⟨a0.Accounts, (wI (a0.Done - 1))⟩).bind fun y60 =>
      match y60 with
      | .inl p61 =>
        some false
      | .inr p62 =>
        some true))))
noncomputable def spec_l9Own (a0 : SagaT) : Option SagaT :=
  (guardO (a0.Accounts.length * 8 ≤ 140737488355328) <|
  (guardO (a0.Moves.length * 24 ≤ 140737488355328) <|
  some (⟨(([]) ++ a0.Accounts), (([]) ++ a0.Moves), a0.Done, a0.Undoing⟩ : SagaT)))
noncomputable def spec_l9Step_ww (a0 : SagaT) : Option (SagaT × Bool) :=
  (if a0.Undoing = true then
    (if (a0.Done == 0) = true then
      some (a0, false)
    else
      (guardO (0 ≤ (wI (a0.Done - 1)) ∧ (wI (a0.Done - 1)) < ((a0.Moves.length : Nat) : Int)) <|
      ((spec_l9Back (nth a0.Moves ((wI (a0.Done - 1)).toNat))).bind fun c82 =>
      ((spec_l9Do a0.Accounts c82).bind fun c83 =>
      some ((⟨c83.1, a0.Moves, (wI (a0.Done - 1)), a0.Undoing⟩ : SagaT), true)))))
  else
    (if (a0.Done == ((a0.Moves.length : Nat) : Int)) = true then
      some (a0, false)
    else
      (guardO (0 ≤ a0.Done ∧ a0.Done < ((a0.Moves.length : Nat) : Int)) <|
      ((spec_l9Do a0.Accounts (nth a0.Moves a0.Done.toNat)).bind fun c84 =>
      (if (!c84.2) = true then
        some ((⟨a0.Accounts, a0.Moves, a0.Done, true⟩ : SagaT), true)
      else
        some ((⟨c84.1, a0.Moves, (wI (a0.Done + 1)), a0.Undoing⟩ : SagaT), true))))))
structure spec_StepSaga_J4004 where
  t22 : Bool
noncomputable def spec_StepSaga (a0 : SagaT) : Option (SagaT × Bool) :=
  ((spec_GoodSaga a0).bind fun c77 =>
  (if (!c77) = true then
    some ((⟨[], [], 0, false⟩ : SagaT), false)
  else
    ((spec_l9Own a0).bind fun c78 =>
    ((spec_l9Step_ww c78).bind fun c85 =>
    (((if (!c85.2) = true then
        some (⟨true⟩ : spec_StepSaga_J4004)
      else
        ((spec_GoodSaga (⟨c85.1.Accounts, c78.Moves, c85.1.Done, c85.1.Undoing⟩ : SagaT)).bind fun c86 =>
        some (⟨(!c86)⟩ : spec_StepSaga_J4004))) : Option spec_StepSaga_J4004).bind fun p87 =>
    (if p87.t22 = true then
      some ((⟨[], [], 0, false⟩ : SagaT), false)
    else
      some ((⟨c85.1.Accounts, c78.Moves, c85.1.Done, c85.1.Undoing⟩ : SagaT), true)))))))
structure spec_FailSaga_J4001 where
  t18 : Bool
noncomputable def spec_FailSaga (a0 : SagaT) : Option (SagaT × Bool) :=
  ((((spec_GoodSaga a0).bind fun c90 =>
    (if (!c90) = true then
      some (⟨true⟩ : spec_FailSaga_J4001)
    else
      (if a0.Undoing = true then
        some (⟨true⟩ : spec_FailSaga_J4001)
      else
        some (⟨(a0.Done == ((a0.Moves.length : Nat) : Int))⟩ : spec_FailSaga_J4001)))) : Option spec_FailSaga_J4001).bind fun p91 =>
  (if p91.t18 = true then
    some ((⟨[], [], 0, false⟩ : SagaT), false)
  else
    ((spec_l9Own a0).bind fun c92 =>
    some ((⟨c92.Accounts, c92.Moves, c92.Done, true⟩ : SagaT), true))))
noncomputable def slices_Clone_int (a0 : (List Int)) : Option (List Int) :=
  guardO (a0.length * 8 ≤ 140737488355328) (some a0)
noncomputable def impl_accountOk (a0 : Int) : Option Bool :=
  ((impl_in a0 0 1000000).bind fun c219 =>
  some c219)
noncomputable def impl_moved_F (a0 : (List Int)) (a1 : MoveT) : Option ((List Int) × Bool) :=
  ((slices_Clone_int a0).bind fun c218 =>
  (guardO (0 ≤ a1.From ∧ a1.From < ((c218.length : Nat) : Int)) <|
  (guardO (0 ≤ a1.From ∧ a1.From < ((c218.length : Nat) : Int)) <|
  (guardO (0 ≤ a1.To ∧ a1.To < ((c218.length : Nat) : Int)) <|
  (guardO (0 ≤ a1.To ∧ a1.To < ((c218.length : Nat) : Int)) <|
  (guardO (0 ≤ a1.From ∧ a1.From < ((c218.length : Nat) : Int)) <|
  ((impl_accountOk (nth ((c218.set a1.From.toNat (wI ((nth c218 a1.From.toNat) - a1.Many))).set a1.To.toNat (wI ((nth (c218.set a1.From.toNat (wI ((nth c218 a1.From.toNat) - a1.Many))) a1.To.toNat) + a1.Many))) a1.From.toNat)).bind fun c220 =>
  (if c220 = true then
    (guardO (0 ≤ a1.To ∧ a1.To < ((c218.length : Nat) : Int)) <|
    ((impl_accountOk (nth ((c218.set a1.From.toNat (wI ((nth c218 a1.From.toNat) - a1.Many))).set a1.To.toNat (wI ((nth (c218.set a1.From.toNat (wI ((nth c218 a1.From.toNat) - a1.Many))) a1.To.toNat) + a1.Many))) a1.To.toNat)).bind fun c221 =>
    some (((c218.set a1.From.toNat (wI ((nth c218 a1.From.toNat) - a1.Many))).set a1.To.toNat (wI ((nth (c218.set a1.From.toNat (wI ((nth c218 a1.From.toNat) - a1.Many))) a1.To.toNat) + a1.Many))), c221)))
  else
    some (((c218.set a1.From.toNat (wI ((nth c218 a1.From.toNat) - a1.Many))).set a1.To.toNat (wI ((nth (c218.set a1.From.toNat (wI ((nth c218 a1.From.toNat) - a1.Many))) a1.To.toNat) + a1.Many))), false)))))))))
noncomputable def impl_back (a0 : MoveT) : Option MoveT :=
  some (⟨a0.To, a0.From, a0.Many⟩ : MoveT)
noncomputable def impl_accountsOk_c1 (a0 : Int) : Option Bool :=
  ((impl_accountOk a0).bind fun c224 =>
  some (!c224))
structure slices_IndexFunc_int_impl_accountsOk_c1_G1 where
  t8 : Int
structure slices_IndexFunc_int_impl_accountsOk_c1_P1_0 where
  t4 : Int
noncomputable def slices_IndexFunc_int_impl_accountsOk_c1_L1 (a0 : (List Int)) (g223 : slices_IndexFunc_int_impl_accountsOk_c1_G1) : Option (slices_IndexFunc_int_impl_accountsOk_c1_G1 ⊕ (slices_IndexFunc_int_impl_accountsOk_c1_P1_0 ⊕ Unit)) :=
  (if (decide (g223.t8 < ((a0.length : Nat) : Int))) = true then
    (guardO (0 ≤ g223.t8 ∧ g223.t8 < (a0.length : Int)) <|
    ((impl_accountsOk_c1 (nth a0 g223.t8.toNat)).bind fun c226 =>
    (if c226 = true then
      some (.inr (.inl (⟨g223.t8⟩)))
    else
      some (.inl ⟨(wI (g223.t8 + 1))⟩))))
  else
    some (.inr (.inr ())))
noncomputable def slices_IndexFunc_int_impl_accountsOk_c1 (a0 : (List Int)) : Option Int :=
  ((loopF (slices_IndexFunc_int_impl_accountsOk_c1_L1 a0) ⟨0⟩).bind fun y227 =>
  match y227 with
  | .inl p228 =>
    some p228.t4
  | .inr p229 =>
    some (-1))
noncomputable def slices_ContainsFunc_int_impl_accountsOk_c1 (a0 : (List Int)) : Option Bool :=
  ((slices_IndexFunc_int_impl_accountsOk_c1 a0).bind fun c230 =>
  some (decide (c230 ≥ 0)))
noncomputable def impl_accountsOk (a0 : (List Int)) : Option Bool :=
  ((impl_in ((a0.length : Nat) : Int) 1 8).bind fun c222 =>
  (if c222 = true then
    ((slices_ContainsFunc_int_impl_accountsOk_c1 a0).bind fun c231 =>
    some (!c231))
  else
    some false))
noncomputable def impl_moveOk (a0 : MoveT) (a1 : Int) : Option Bool :=
  ((impl_in a0.From 0 (wI (a1 - 1))).bind fun c233 =>
  (if c233 = true then
    ((impl_in a0.To 0 (wI (a1 - 1))).bind fun c234 =>
    (if c234 = true then
      (if (a0.From != a0.To) = true then
        ((impl_in a0.Many 1 1000).bind fun c235 =>
        some c235)
      else
        some false)
    else
      some false))
  else
    some false))
noncomputable def impl_GoodSaga_c1_r (a0 : MoveT) (a1 : SagaT) : Option Bool :=
  ((impl_moveOk a0 ((a1.Accounts.length : Nat) : Int)).bind fun c236 =>
  some (!c236))
structure slices_IndexFunc_impl_Move_impl_GoodSaga_c1r_G1 where
  t8 : Int
structure slices_IndexFunc_impl_Move_impl_GoodSaga_c1r_P1_0 where
  t4 : Int
noncomputable def slices_IndexFunc_impl_Move_impl_GoodSaga_c1r_L1 (a0 : (List MoveT)) (a1 : SagaT) (g232 : slices_IndexFunc_impl_Move_impl_GoodSaga_c1r_G1) : Option (slices_IndexFunc_impl_Move_impl_GoodSaga_c1r_G1 ⊕ (slices_IndexFunc_impl_Move_impl_GoodSaga_c1r_P1_0 ⊕ Unit)) :=
  (if (decide (g232.t8 < ((a0.length : Nat) : Int))) = true then
    (guardO (0 ≤ g232.t8 ∧ g232.t8 < (a0.length : Int)) <|
    ((impl_GoodSaga_c1_r (nth a0 g232.t8.toNat) a1).bind fun c238 =>
    (if c238 = true then
      some (.inr (.inl (⟨g232.t8⟩)))
    else
      some (.inl ⟨(wI (g232.t8 + 1))⟩))))
  else
    some (.inr (.inr ())))
noncomputable def slices_IndexFunc_impl_Move_impl_GoodSaga_c1r (a0 : (List MoveT)) (a1 : SagaT) : Option Int :=
  ((loopF (slices_IndexFunc_impl_Move_impl_GoodSaga_c1r_L1 a0 a1) ⟨0⟩).bind fun y239 =>
  match y239 with
  | .inl p240 =>
    some p240.t4
  | .inr p241 =>
    some (-1))
noncomputable def slices_ContainsFunc_impl_Move_impl_GoodSaga_c1r (a0 : (List MoveT)) (a1 : SagaT) : Option Bool :=
  ((slices_IndexFunc_impl_Move_impl_GoodSaga_c1r a0 a1).bind fun c242 =>
  some (decide (c242 ≥ 0)))
noncomputable def impl_GoodSaga_back : List MoveT → (List Int) → Option Bool
  | [], _ => some true
  | m :: r, now => (impl_back m).bind fun x => (impl_moved_F now x).bind fun c => if c.2 = true then impl_GoodSaga_back r c.1 else some false
noncomputable def impl_GoodSaga (a0 : SagaT) : Option Bool :=
  ((slices_ContainsFunc_impl_Move_impl_GoodSaga_c1r a0.Moves a0).bind fun c1 =>
  ((impl_accountsOk a0.Accounts).bind fun c2 =>
  (if (!c2) = true then
    some false
  else
    (if a0.Moves.length > 20 then
      some false
    else
      (if c1 = true then
        some false
      else
        ((impl_in a0.Done 0 ((a0.Moves.length : Nat) : Int)).bind fun c3 =>
        (if (!c3) = true then
          some false
        else
          (guardO (0 ≤ a0.Done ∧ a0.Done ≤ ((a0.Moves.length : Nat) : Int)) <|
          (impl_GoodSaga_back (a0.Moves.take a0.Done.toNat).reverse a0.Accounts)))))))))
noncomputable def slices_Clone_impl_Move (a0 : (List MoveT)) : Option (List MoveT) :=
  guardO (a0.length * 24 ≤ 140737488355328) (some a0)
noncomputable def impl_cloneSaga (a0 : SagaT) : Option SagaT :=
  ((slices_Clone_int a0.Accounts).bind fun c244 =>
  ((slices_Clone_impl_Move a0.Moves).bind fun c245 =>
  some (⟨c244, c245, a0.Done, a0.Undoing⟩ : SagaT)))
structure impl_Saga_fail_o_J4001 where
  t18 : Bool
noncomputable def impl_Saga_fail_o (a0 : SagaT) : Option (Bool × SagaT) :=
  (((if a0.Undoing = true then
      some (⟨true⟩ : impl_Saga_fail_o_J4001)
    else
      some (⟨(a0.Done == ((a0.Moves.length : Nat) : Int))⟩ : impl_Saga_fail_o_J4001)) : Option impl_Saga_fail_o_J4001).bind fun p267 =>
  (if p267.t18 = true then
    some (false, a0)
  else
    some (true, (⟨a0.Accounts, a0.Moves, a0.Done, true⟩ : SagaT))))
noncomputable def impl_moved (a0 : (List Int)) (a1 : MoveT) : Option ((List Int) × Bool) :=
  ((slices_Clone_int a0).bind fun c275 =>
  (guardO (0 ≤ a1.From ∧ a1.From < ((c275.length : Nat) : Int)) <|
  (guardO (0 ≤ a1.From ∧ a1.From < ((c275.length : Nat) : Int)) <|
  (guardO (0 ≤ a1.To ∧ a1.To < ((c275.length : Nat) : Int)) <|
  (guardO (0 ≤ a1.To ∧ a1.To < ((c275.length : Nat) : Int)) <|
  (guardO (0 ≤ a1.From ∧ a1.From < ((c275.length : Nat) : Int)) <|
  ((impl_accountOk (nth ((c275.set a1.From.toNat (wI ((nth c275 a1.From.toNat) - a1.Many))).set a1.To.toNat (wI ((nth (c275.set a1.From.toNat (wI ((nth c275 a1.From.toNat) - a1.Many))) a1.To.toNat) + a1.Many))) a1.From.toNat)).bind fun c276 =>
  (if c276 = true then
    (guardO (0 ≤ a1.To ∧ a1.To < ((c275.length : Nat) : Int)) <|
    ((impl_accountOk (nth ((c275.set a1.From.toNat (wI ((nth c275 a1.From.toNat) - a1.Many))).set a1.To.toNat (wI ((nth (c275.set a1.From.toNat (wI ((nth c275 a1.From.toNat) - a1.Many))) a1.To.toNat) + a1.Many))) a1.To.toNat)).bind fun c277 =>
    some (((c275.set a1.From.toNat (wI ((nth c275 a1.From.toNat) - a1.Many))).set a1.To.toNat (wI ((nth (c275.set a1.From.toNat (wI ((nth c275 a1.From.toNat) - a1.Many))) a1.To.toNat) + a1.Many))), c277)))
  else
    some (((c275.set a1.From.toNat (wI ((nth c275 a1.From.toNat) - a1.Many))).set a1.To.toNat (wI ((nth (c275.set a1.From.toNat (wI ((nth c275 a1.From.toNat) - a1.Many))) a1.To.toNat) + a1.Many))), false)))))))))
structure impl_Saga_step_o_J4001 where
  t5 : Bool
noncomputable def impl_Saga_step_o (a0 : SagaT) : Option (Bool × SagaT) :=
  (((if a0.Undoing = true then
      (if (a0.Done == 0) = true then
        some (⟨true⟩ : impl_Saga_step_o_J4001)
      else
        (if (!a0.Undoing) = true then
          some (⟨(a0.Done == ((a0.Moves.length : Nat) : Int))⟩ : impl_Saga_step_o_J4001)
        else
          some (⟨false⟩ : impl_Saga_step_o_J4001)))
    else
      (if (!a0.Undoing) = true then
        some (⟨(a0.Done == ((a0.Moves.length : Nat) : Int))⟩ : impl_Saga_step_o_J4001)
      else
        some (⟨false⟩ : impl_Saga_step_o_J4001))) : Option impl_Saga_step_o_J4001).bind fun p273 =>
  (if p273.t5 = true then
    some (false, a0)
  else
    (if a0.Undoing = true then
      (guardO (0 ≤ (wI (a0.Done - 1)) ∧ (wI (a0.Done - 1)) < ((a0.Moves.length : Nat) : Int)) <|
      ((impl_back (nth a0.Moves ((wI (a0.Done - 1)).toNat))).bind fun c274 =>
      ((impl_moved a0.Accounts c274).bind fun c278 =>
      some (true, (⟨c278.1, a0.Moves, (wI (a0.Done - 1)), a0.Undoing⟩ : SagaT)))))
    else
      (guardO (0 ≤ a0.Done ∧ a0.Done < ((a0.Moves.length : Nat) : Int)) <|
      ((impl_moved a0.Accounts (nth a0.Moves a0.Done.toNat)).bind fun c279 =>
      (if (!c279.2) = true then
        some (true, (⟨a0.Accounts, a0.Moves, a0.Done, true⟩ : SagaT))
      else
        some (true, (⟨c279.1, a0.Moves, (wI (a0.Done + 1)), a0.Undoing⟩ : SagaT))))))))
structure impl_RunSaga_c1_ooo_G1 where
  b0_2 : Int
  b0_3 : Bool
  b3_0 : Int
  c5 : (List Int)
structure impl_RunSaga_c1_ooo_P1_0 where
  b0_2 : Int
  b0_3 : Bool
  b3_0 : Int
  c5 : (List Int)
noncomputable def impl_RunSaga_c1_ooo_L1 (a2 : Int) (a0 : SagaT) (g271 : impl_RunSaga_c1_ooo_G1) : Option (impl_RunSaga_c1_ooo_G1 ⊕ impl_RunSaga_c1_ooo_P1_0) :=
  (if (g271.b3_0 == a2) = true then
    ((impl_Saga_fail_o (⟨g271.c5, a0.Moves, g271.b0_2, g271.b0_3⟩ : SagaT)).bind fun c282 =>
    (if c282.1 = true then
      some (.inl ⟨c282.2.Done, c282.2.Undoing, (wI (g271.b3_0 + 1)), g271.c5⟩)
    else
      ((impl_Saga_step_o (⟨g271.c5, a0.Moves, c282.2.Done, c282.2.Undoing⟩ : SagaT)).bind fun c283 =>
      (if c283.1 = true then
        some (.inl ⟨c283.2.Done, c283.2.Undoing, (wI (g271.b3_0 + 1)), c283.2.Accounts⟩)
      else
        some (.inr (⟨c283.2.Done, c283.2.Undoing, g271.b3_0, c283.2.Accounts⟩))))))
  else
    ((impl_Saga_step_o (⟨g271.c5, a0.Moves, g271.b0_2, g271.b0_3⟩ : SagaT)).bind fun c284 =>
    (if c284.1 = true then
      some (.inl ⟨c284.2.Done, c284.2.Undoing, (wI (g271.b3_0 + 1)), c284.2.Accounts⟩)
    else
      some (.inr (⟨c284.2.Done, c284.2.Undoing, g271.b3_0, c284.2.Accounts⟩)))))
noncomputable def impl_RunSaga_c1_ooo (a0 : SagaT) (a1 : Int) (a2 : Int) : Option (Bool × SagaT × Int) :=
  ((loopF (impl_RunSaga_c1_ooo_L1 a2 a0) ⟨a0.Done, a0.Undoing, a1, a0.Accounts⟩).bind fun y285 =>
  some (true, (⟨y285.c5, a0.Moves, y285.b0_2, y285.b0_3⟩ : SagaT), y285.b3_0))
noncomputable def impl_changedSaga_impl_RunSaga_c1oo (a0 : SagaT) (a1 : Int) (a2 : Int) : Option (SagaT × Bool × Int) :=
  ((impl_GoodSaga a0).bind fun c269 =>
  (if (!c269) = true then
    some ((⟨[], [], 0, false⟩ : SagaT), false, a1)
  else
    ((impl_cloneSaga a0).bind fun c270 =>
    ((impl_RunSaga_c1_ooo c270 a1 a2).bind fun c286 =>
    (if (!c286.1) = true then
      some ((⟨[], [], 0, false⟩ : SagaT), false, c286.2.2)
    else
      some ((⟨c286.2.1.Accounts, c270.Moves, c286.2.1.Done, c286.2.1.Undoing⟩ : SagaT), true, c286.2.2))))))
noncomputable def impl_RunSaga (a0 : SagaT) (a1 : Int) : Option (SagaT × Int × Bool) :=
  ((impl_changedSaga_impl_RunSaga_c1oo a0 0 a1).bind fun c287 =>
  (if (!c287.2.1) = true then
    some ((⟨[], [], 0, false⟩ : SagaT), 0, false)
  else
    some (c287.1, c287.2.2, true)))
noncomputable def laws_szIntS (a0 : (List Int)) (a1 : Int) : Option Int :=
  (if (decide ((wI (a1 - ((a0.length : Nat) : Int))) < 0)) = true then
    some (-1)
  else
    some (wI (a1 - ((a0.length : Nat) : Int))))
noncomputable def laws_szMoveS (a0 : (List MoveT)) (a1 : Int) : Option Int :=
  (if (decide ((wI (a1 - ((a0.length : Nat) : Int))) < 0)) = true then
    some (-1)
  else
    some (wI (a1 - ((a0.length : Nat) : Int))))
noncomputable def laws_szSaga (a0 : SagaT) (a1 : Int) : Option Int :=
  ((laws_szIntS a0.Accounts a1).bind fun c317 =>
  (if (decide (c317 < 0)) = true then
    some (-1)
  else
    ((laws_szMoveS a0.Moves c317).bind fun c318 =>
    (if (decide (c318 < 0)) = true then
      some (-1)
    else
      some c318))))
structure laws_toIntS_G1 where
  t4 : Int
  c0 : (List Int)
structure laws_toIntS_P1_0 where
  c0 : (List Int)
noncomputable def laws_toIntS_L1 (a0 : (List Int)) (g320 : laws_toIntS_G1) : Option (laws_toIntS_G1 ⊕ laws_toIntS_P1_0) :=
  (if (decide (g320.t4 < ((a0.length : Nat) : Int))) = true then
    (guardO (0 ≤ g320.t4 ∧ g320.t4 < (a0.length : Int)) <|
    (guardO (0 ≤ g320.t4 ∧ g320.t4 < ((g320.c0.length : Nat) : Int)) <|
    some (.inl ⟨(wI (g320.t4 + 1)), (g320.c0.set g320.t4.toNat (nth a0 g320.t4.toNat))⟩)))
  else
    some (.inr (⟨g320.c0⟩)))
noncomputable def laws_toIntS (a0 : (List Int)) : Option (List Int) :=
  (guardO (0 ≤ ((a0.length : Nat) : Int) ∧ ((a0.length : Nat) : Int) * 8 ≤ 281474976710656 ∧ ((a0.length : Nat) : Int) ≤ 9223372036854775807) <|
  ((loopF (laws_toIntS_L1 a0) ⟨0, (List.replicate a0.length 0)⟩).bind fun y321 =>
  some y321.c0))
noncomputable def laws_toMove (a0 : MoveT) : Option MoveT :=
  some a0
structure laws_toMoveS_G1 where
  t4 : Int
  c0 : (List MoveT)
structure laws_toMoveS_P1_0 where
  c0 : (List MoveT)
noncomputable def laws_toMoveS_L1 (a0 : (List MoveT)) (g323 : laws_toMoveS_G1) : Option (laws_toMoveS_G1 ⊕ laws_toMoveS_P1_0) :=
  (if (decide (g323.t4 < ((a0.length : Nat) : Int))) = true then
    (guardO (0 ≤ g323.t4 ∧ g323.t4 < (a0.length : Int)) <|
    ((laws_toMove (nth a0 g323.t4.toNat)).bind fun c325 =>
    (guardO (0 ≤ g323.t4 ∧ g323.t4 < ((g323.c0.length : Nat) : Int)) <|
    some (.inl ⟨(wI (g323.t4 + 1)), (g323.c0.set g323.t4.toNat c325)⟩))))
  else
    some (.inr (⟨g323.c0⟩)))
noncomputable def laws_toMoveS (a0 : (List MoveT)) : Option (List MoveT) :=
  (guardO (0 ≤ ((a0.length : Nat) : Int) ∧ ((a0.length : Nat) : Int) * 24 ≤ 281474976710656 ∧ ((a0.length : Nat) : Int) ≤ 9223372036854775807) <|
  ((loopF (laws_toMoveS_L1 a0) ⟨0, (List.replicate a0.length (⟨0, 0, 0⟩ : MoveT))⟩).bind fun y326 =>
  some y326.c0))
noncomputable def laws_toSaga (a0 : SagaT) : Option SagaT :=
  ((laws_toIntS a0.Accounts).bind fun c322 =>
  ((laws_toMoveS a0.Moves).bind fun c327 =>
  some (⟨c322, c327, a0.Done, a0.Undoing⟩ : SagaT)))
structure laws_eqIntS_G1 where
  t5 : Int
noncomputable def laws_eqIntS_L1 (a0 : (List Int)) (a1 : (List Int)) (g332 : laws_eqIntS_G1) : Option (laws_eqIntS_G1 ⊕ (Unit ⊕ Unit)) :=
  (if (decide (g332.t5 < ((a0.length : Nat) : Int))) = true then
    (guardO (0 ≤ g332.t5 ∧ g332.t5 < (a0.length : Int)) <|
    (guardO (0 ≤ g332.t5 ∧ g332.t5 < (a1.length : Int)) <|
    (if ((nth a0 g332.t5.toNat) != (nth a1 g332.t5.toNat)) = true then
      some (.inr (.inl ()))
    else
      some (.inl ⟨(wI (g332.t5 + 1))⟩))))
  else
    some (.inr (.inr ())))
noncomputable def laws_eqIntS (a0 : (List Int)) (a1 : (List Int)) : Option Bool :=
  (if (((a0.length : Nat) : Int) != ((a1.length : Nat) : Int)) = true then
    some false
  else
    ((loopF (laws_eqIntS_L1 a0 a1) ⟨0⟩).bind fun y333 =>
    match y333 with
    | .inl p334 =>
      some false
    | .inr p335 =>
      some true))
noncomputable def laws_eqMove (a0 : MoveT) (a1 : MoveT) : Option Bool :=
  (if (a0.From != a1.From) = true then
    some false
  else
    (if (a0.To != a1.To) = true then
      some false
    else
      (if (a0.Many != a1.Many) = true then
        some false
      else
        some true)))
structure laws_eqMoveS_G1 where
  t5 : Int
noncomputable def laws_eqMoveS_L1 (a0 : (List MoveT)) (a1 : (List MoveT)) (g337 : laws_eqMoveS_G1) : Option (laws_eqMoveS_G1 ⊕ (Unit ⊕ Unit)) :=
  (if (decide (g337.t5 < ((a0.length : Nat) : Int))) = true then
    (guardO (0 ≤ g337.t5 ∧ g337.t5 < (a0.length : Int)) <|
    (guardO (0 ≤ g337.t5 ∧ g337.t5 < (a1.length : Int)) <|
    ((laws_eqMove (nth a0 g337.t5.toNat) (nth a1 g337.t5.toNat)).bind fun c339 =>
    (if (!c339) = true then
      some (.inr (.inl ()))
    else
      some (.inl ⟨(wI (g337.t5 + 1))⟩)))))
  else
    some (.inr (.inr ())))
noncomputable def laws_eqMoveS (a0 : (List MoveT)) (a1 : (List MoveT)) : Option Bool :=
  (if (((a0.length : Nat) : Int) != ((a1.length : Nat) : Int)) = true then
    some false
  else
    ((loopF (laws_eqMoveS_L1 a0 a1) ⟨0⟩).bind fun y340 =>
    match y340 with
    | .inl p341 =>
      some false
    | .inr p342 =>
      some true))
noncomputable def laws_eqSaga (a0 : SagaT) (a1 : SagaT) : Option Bool :=
  ((laws_eqIntS a0.Accounts a1.Accounts).bind fun c336 =>
  (if (!c336) = true then
    some false
  else
    ((laws_eqMoveS a0.Moves a1.Moves).bind fun c343 =>
    (if (!c343) = true then
      some false
    else
      (if (a0.Done != a1.Done) = true then
        some false
      else
        (if (!(a0.Undoing == a1.Undoing)) = true then
          some false
        else
          some true))))))
structure laws_markIntS_w_G1 where
  t1 : Int
  t5 : Int
  c0 : (List Int)
structure laws_markIntS_w_P1_0 where
  t1 : Int
  c0 : (List Int)
noncomputable def laws_markIntS_w_L1 (g349 : laws_markIntS_w_G1) : Option (laws_markIntS_w_G1 ⊕ laws_markIntS_w_P1_0) :=
  (if (decide (g349.t5 < ((g349.c0.length : Nat) : Int))) = true then
    (guardO (0 ≤ g349.t5 ∧ g349.t5 < ((g349.c0.length : Nat) : Int)) <|
    some (.inl ⟨(wI (g349.t1 + 1)), (wI (g349.t5 + 1)), (g349.c0.set g349.t5.toNat g349.t1)⟩))
  else
    some (.inr (⟨g349.t1, g349.c0⟩)))
noncomputable def laws_markIntS_w (a0 : (List Int)) (a1 : Int) : Option (Int × (List Int)) :=
  ((loopF (laws_markIntS_w_L1) ⟨a1, 0, a0⟩).bind fun y350 =>
  some (y350.t1, y350.c0))
structure laws_markMoveS_w_G1 where
  t1 : Int
  t5 : Int
  c0 : (List MoveT)
structure laws_markMoveS_w_P1_0 where
  t1 : Int
  c0 : (List MoveT)
noncomputable def laws_markMoveS_w_L1 (g353 : laws_markMoveS_w_G1) : Option (laws_markMoveS_w_G1 ⊕ laws_markMoveS_w_P1_0) :=
  (if (decide (g353.t5 < ((g353.c0.length : Nat) : Int))) = true then
    (guardO (0 ≤ g353.t5 ∧ g353.t5 < ((g353.c0.length : Nat) : Int)) <|
    (guardO (0 ≤ g353.t5 ∧ g353.t5 < ((g353.c0.length : Nat) : Int)) <|
    (guardO (0 ≤ g353.t5 ∧ g353.t5 < ((g353.c0.length : Nat) : Int)) <|
    some (.inl ⟨(wI ((wI ((wI (g353.t1 + 1)) + 1)) + 1)), (wI (g353.t5 + 1)), (((g353.c0.set g353.t5.toNat (⟨g353.t1, (nth g353.c0 g353.t5.toNat).To, (nth g353.c0 g353.t5.toNat).Many⟩ : MoveT)).set g353.t5.toNat (⟨(nth (g353.c0.set g353.t5.toNat (⟨g353.t1, (nth g353.c0 g353.t5.toNat).To, (nth g353.c0 g353.t5.toNat).Many⟩ : MoveT)) g353.t5.toNat).From, (wI (g353.t1 + 1)), (nth (g353.c0.set g353.t5.toNat (⟨g353.t1, (nth g353.c0 g353.t5.toNat).To, (nth g353.c0 g353.t5.toNat).Many⟩ : MoveT)) g353.t5.toNat).Many⟩ : MoveT)).set g353.t5.toNat (⟨(nth ((g353.c0.set g353.t5.toNat (⟨g353.t1, (nth g353.c0 g353.t5.toNat).To, (nth g353.c0 g353.t5.toNat).Many⟩ : MoveT)).set g353.t5.toNat (⟨(nth (g353.c0.set g353.t5.toNat (⟨g353.t1, (nth g353.c0 g353.t5.toNat).To, (nth g353.c0 g353.t5.toNat).Many⟩ : MoveT)) g353.t5.toNat).From, (wI (g353.t1 + 1)), (nth (g353.c0.set g353.t5.toNat (⟨g353.t1, (nth g353.c0 g353.t5.toNat).To, (nth g353.c0 g353.t5.toNat).Many⟩ : MoveT)) g353.t5.toNat).Many⟩ : MoveT)) g353.t5.toNat).From, (nth ((g353.c0.set g353.t5.toNat (⟨g353.t1, (nth g353.c0 g353.t5.toNat).To, (nth g353.c0 g353.t5.toNat).Many⟩ : MoveT)).set g353.t5.toNat (⟨(nth (g353.c0.set g353.t5.toNat (⟨g353.t1, (nth g353.c0 g353.t5.toNat).To, (nth g353.c0 g353.t5.toNat).Many⟩ : MoveT)) g353.t5.toNat).From, (wI (g353.t1 + 1)), (nth (g353.c0.set g353.t5.toNat (⟨g353.t1, (nth g353.c0 g353.t5.toNat).To, (nth g353.c0 g353.t5.toNat).Many⟩ : MoveT)) g353.t5.toNat).Many⟩ : MoveT)) g353.t5.toNat).To, (wI ((wI (g353.t1 + 1)) + 1))⟩ : MoveT))⟩))))
  else
    some (.inr (⟨g353.t1, g353.c0⟩)))
noncomputable def laws_markMoveS_w (a0 : (List MoveT)) (a1 : Int) : Option (Int × (List MoveT)) :=
  ((loopF (laws_markMoveS_w_L1) ⟨a1, 0, a0⟩).bind fun y354 =>
  some (y354.t1, y354.c0))
noncomputable def laws_markSaga_ww (a0 : SagaT) (a1 : Int) : Option (Int × (List Int) × (List MoveT)) :=
  ((laws_markIntS_w a0.Accounts a1).bind fun c351 =>
  (guardO (c351.2.length = a0.Accounts.length) <|
  ((laws_markMoveS_w a0.Moves c351.1).bind fun c355 =>
  (guardO (c355.2.length = a0.Moves.length) <|
  some (c355.1, c351.2, c355.2)))))
structure laws_heldIntS_G1 where
  t1 : Int
  t5 : Int
structure laws_heldIntS_P1_1 where
  t1 : Int
noncomputable def laws_heldIntS_L1 (a0 : (List Int)) (g360 : laws_heldIntS_G1) : Option (laws_heldIntS_G1 ⊕ (Unit ⊕ laws_heldIntS_P1_1)) :=
  (if (decide (g360.t5 < ((a0.length : Nat) : Int))) = true then
    (guardO (0 ≤ g360.t5 ∧ g360.t5 < (a0.length : Int)) <|
    (if ((nth a0 g360.t5.toNat) != g360.t1) = true then
      some (.inr (.inl ()))
    else
      some (.inl ⟨(wI (g360.t1 + 1)), (wI (g360.t5 + 1))⟩)))
  else
    some (.inr (.inr (⟨g360.t1⟩))))
noncomputable def laws_heldIntS (a0 : (List Int)) (a1 : Int) : Option Int :=
  ((loopF (laws_heldIntS_L1 a0) ⟨a1, 0⟩).bind fun y361 =>
  match y361 with
  | .inl p362 =>
    some (-1)
  | .inr p363 =>
    some p363.t1)
structure laws_heldMoveS_G1 where
  t1 : Int
  t5 : Int
structure laws_heldMoveS_P1_1 where
  t1 : Int
noncomputable def laws_heldMoveS_L1 (a0 : (List MoveT)) (g365 : laws_heldMoveS_G1) : Option (laws_heldMoveS_G1 ⊕ (Unit ⊕ laws_heldMoveS_P1_1)) :=
  (if (decide (g365.t5 < ((a0.length : Nat) : Int))) = true then
    (guardO (0 ≤ g365.t5 ∧ g365.t5 < (a0.length : Int)) <|
    (if (((nth a0 g365.t5.toNat).From) != g365.t1) = true then
      some (.inr (.inl ()))
    else
      (guardO (0 ≤ g365.t5 ∧ g365.t5 < (a0.length : Int)) <|
      (if (((nth a0 g365.t5.toNat).To) != (wI (g365.t1 + 1))) = true then
        some (.inr (.inl ()))
      else
        (guardO (0 ≤ g365.t5 ∧ g365.t5 < (a0.length : Int)) <|
        (if (((nth a0 g365.t5.toNat).Many) != (wI ((wI (g365.t1 + 1)) + 1))) = true then
          some (.inr (.inl ()))
        else
          some (.inl ⟨(wI ((wI ((wI (g365.t1 + 1)) + 1)) + 1)), (wI (g365.t5 + 1))⟩)))))))
  else
    some (.inr (.inr (⟨g365.t1⟩))))
noncomputable def laws_heldMoveS (a0 : (List MoveT)) (a1 : Int) : Option Int :=
  ((loopF (laws_heldMoveS_L1 a0) ⟨a1, 0⟩).bind fun y366 =>
  match y366 with
  | .inl p367 =>
    some (-1)
  | .inr p368 =>
    some p368.t1)
noncomputable def laws_heldSaga (a0 : SagaT) (a1 : Int) : Option Int :=
  ((laws_heldIntS a0.Accounts a1).bind fun c364 =>
  (if (decide (c364 < 0)) = true then
    some (-1)
  else
    ((laws_heldMoveS a0.Moves c364).bind fun c369 =>
    (if (decide (c369 < 0)) = true then
      some (-1)
    else
      some c369))))
structure spec_RunSaga_G1 where
  t7 : Int
  b0_2 : Int
  b0_3 : Bool
  c2 : (List Int)
  c3 : (List MoveT)
structure spec_RunSaga_P1_0 where
  t5 : Int
  b0_2 : Int
  b0_3 : Bool
  c1 : (List Int)
  c2 : (List MoveT)
structure spec_RunSaga_J22026 where
  t9 : Bool
  b2_2 : Int
  b2_3 : Bool
  c5 : (List Int)
  c6 : (List MoveT)
structure spec_RunSaga_J32026 where
  t9 : Bool
  b2_2 : Int
  b2_3 : Bool
  c5 : (List Int)
  c6 : (List MoveT)
noncomputable def spec_RunSaga_L1 (a1 : Int) (g385 : spec_RunSaga_G1) : Option (spec_RunSaga_G1 ⊕ spec_RunSaga_P1_0) :=
  (if (g385.t7 == a1) = true then
    ((spec_FailSaga (⟨g385.c2, g385.c3, g385.b0_2, g385.b0_3⟩ : SagaT)).bind fun c391 =>
    (((if (!c391.2) = true then
        ((spec_StepSaga (⟨g385.c2, g385.c3, g385.b0_2, g385.b0_3⟩ : SagaT)).bind fun c392 =>
        some (⟨c392.2, c392.1.Done, c392.1.Undoing, c392.1.Accounts, c392.1.Moves⟩ : spec_RunSaga_J22026))
      else
        some (⟨c391.2, c391.1.Done, c391.1.Undoing, c391.1.Accounts, c391.1.Moves⟩ : spec_RunSaga_J22026)) : Option spec_RunSaga_J22026).bind fun p393 =>
    (if (!p393.t9) = true then
      some (.inr (⟨g385.t7, g385.b0_2, g385.b0_3, g385.c2, g385.c3⟩))
    else
      some (.inl ⟨(wI (g385.t7 + 1)), p393.b2_2, p393.b2_3, p393.c5, p393.c6⟩))))
  else
    ((((spec_StepSaga (⟨g385.c2, g385.c3, g385.b0_2, g385.b0_3⟩ : SagaT)).bind fun c394 =>
      some (⟨c394.2, c394.1.Done, c394.1.Undoing, c394.1.Accounts, c394.1.Moves⟩ : spec_RunSaga_J32026)) : Option spec_RunSaga_J32026).bind fun p395 =>
    (if (!p395.t9) = true then
      some (.inr (⟨g385.t7, g385.b0_2, g385.b0_3, g385.c2, g385.c3⟩))
    else
      some (.inl ⟨(wI (g385.t7 + 1)), p395.b2_2, p395.b2_3, p395.c5, p395.c6⟩))))
noncomputable def spec_RunSaga (a0 : SagaT) (a1 : Int) : Option (SagaT × Int × Bool) :=
  ((spec_GoodSaga a0).bind fun c383 =>
  (if (!c383) = true then
    some ((⟨[], [], 0, false⟩ : SagaT), 0, false)
  else
    ((spec_l9Own a0).bind fun c384 =>
    ((loopF (spec_RunSaga_L1 a1) ⟨0, c384.Done, c384.Undoing, c384.Accounts, c384.Moves⟩).bind fun y396 =>
    some ((⟨y396.c1, y396.c2, y396.b0_2, y396.b0_3⟩ : SagaT), y396.t5, true)))))
structure laws_FnExactRunSaga_J4008 where
  t54 : Bool
structure laws_FnExactRunSaga_J4014 where
  t80 : Bool
structure laws_FnExactRunSaga_J4025 where
  t113 : Bool
noncomputable def laws_FnExactRunSaga (a0 : SagaT) (a1 : Int) : Option Bool :=
  ((laws_szSaga a0 1048576).bind fun c376 =>
  (if (decide (c376 < 0)) = true then
    some true
  else
    ((laws_toSaga a0).bind fun c377 =>
    ((spec_RunSaga c377 a1).bind fun c397 =>
    ((laws_toSaga a0).bind fun c398 =>
    ((impl_RunSaga c398 a1).bind fun c399 =>
    ((((laws_eqSaga c399.1 c397.1).bind fun c400 =>
      (if (!c400) = true then
        some (⟨true⟩ : laws_FnExactRunSaga_J4008)
      else
        (if (c399.2.1 != c397.2.1) = true then
          some (⟨true⟩ : laws_FnExactRunSaga_J4008)
        else
          some (⟨(!(c399.2.2 == c397.2.2))⟩ : laws_FnExactRunSaga_J4008)))) : Option laws_FnExactRunSaga_J4008).bind fun p401 =>
    (if p401.t54 = true then
      some false
    else
      ((laws_toSaga a0).bind fun c402 =>
      ((laws_eqSaga c398 c402).bind fun c403 =>
      (if (!c403) = true then
        some false
      else
        ((laws_markSaga_ww c398 1).bind fun c404 =>
        (guardO (c404.2.1.length = c398.Accounts.length) <|
        (guardO (c404.2.2.length = c398.Moves.length) <|
        (((if (decide (c404.1 < 0)) = true then
            some (⟨true⟩ : laws_FnExactRunSaga_J4014)
          else
            ((laws_eqSaga c399.1 c397.1).bind fun c405 =>
            (if (!c405) = true then
              some (⟨true⟩ : laws_FnExactRunSaga_J4014)
            else
              (if (c399.2.1 != c397.2.1) = true then
                some (⟨true⟩ : laws_FnExactRunSaga_J4014)
              else
                some (⟨(!(c399.2.2 == c397.2.2))⟩ : laws_FnExactRunSaga_J4014))))) : Option laws_FnExactRunSaga_J4014).bind fun p406 =>
        (if p406.t80 = true then
          some false
        else
          ((laws_markSaga_ww c399.1 1).bind fun c407 =>
          (guardO (c407.2.1.length = c399.1.Accounts.length) <|
          (guardO (c407.2.2.length = c399.1.Moves.length) <|
          ((laws_heldSaga (⟨c407.2.1, c407.2.2, c399.1.Done, c399.1.Undoing⟩ : SagaT) 1).bind fun c408 =>
          (if (decide (c408 < 0)) = true then
            some false
          else
            (if (c408 != c407.1) = true then
              some false
            else
              ((laws_toSaga a0).bind fun c409 =>
              ((impl_RunSaga c409 a1).bind fun c410 =>
              ((((laws_eqSaga c410.1 c397.1).bind fun c411 =>
                (if (!c411) = true then
                  some (⟨true⟩ : laws_FnExactRunSaga_J4025)
                else
                  (if (c410.2.1 != c397.2.1) = true then
                    some (⟨true⟩ : laws_FnExactRunSaga_J4025)
                  else
                    some (⟨(!(c410.2.2 == c397.2.2))⟩ : laws_FnExactRunSaga_J4025)))) : Option laws_FnExactRunSaga_J4025).bind fun p412 =>
              (if p412.t113 = true then
                some false
              else
                ((laws_heldSaga (⟨c407.2.1, c407.2.2, c399.1.Done, c399.1.Undoing⟩ : SagaT) 1).bind fun c413 =>
                (if (decide (c413 < 0)) = true then
                  some false
                else
                  (if (c413 != c407.1) = true then
                    some false
                  else
                    some true)))))))))))))))))))))))))))))
end Go.TL

import Derived.Test.YtjhcfmcdllfmpaaPpSg
import Derived.Test.YtjhcfmcdllfmpaaG33PpR1
set_option linter.unusedSimpArgs false
set_option linter.unusedVariables false
set_option linter.unusedVariables false
set_option linter.unusedSimpArgs false
namespace Go.TL

def accOk (x : Int) : Bool := decide (0 ≤ x ∧ x ≤ 1000000)
def moveP (m : MoveT) (n : Nat) : Bool := decide (0 ≤ m.From ∧ m.From ≤ (n : Int) - 1) && (decide (0 ≤ m.To ∧ m.To ≤ (n : Int) - 1) && (m.From != m.To && decide (1 ≤ m.Many ∧ m.Many ≤ 1000)))
theorem moveP_iff {m : MoveT} {n : Nat} (h : moveP m n = true) : (0 ≤ m.From ∧ m.From < n) ∧ (0 ≤ m.To ∧ m.To < n) ∧ m.From ≠ m.To ∧ (1 ≤ m.Many ∧ m.Many ≤ 1000) := by
  unfold moveP at h
  simp only [Bool.and_eq_true, decide_eq_true_eq, bne_iff_ne, ne_eq] at h
  exact ⟨by omega, by omega, h.2.2.1, h.2.2.2⟩
def backP (m : MoveT) : MoveT := ⟨m.To, m.From, m.Many⟩
theorem moveP_back {m : MoveT} {n : Nat} (h : moveP m n = true) : moveP (backP m) n = true := by
  obtain ⟨a, b, c, d⟩ := moveP_iff h
  unfold moveP backP
  simp only [Bool.and_eq_true, decide_eq_true_eq, bne_iff_ne, ne_eq]
  exact ⟨by omega, by omega, fun e => c e.symm, d⟩
def movedP (l : List Int) (m : MoveT) : List Int :=
  (l.set m.From.toNat (nth l m.From.toNat - m.Many)).set m.To.toNat (nth l m.To.toNat + m.Many)
def movedOk (l : List Int) (m : MoveT) : Bool := decide (0 ≤ nth l m.From.toNat - m.Many) && decide (nth l m.To.toNat + m.Many ≤ 1000000)
abbrev accs (l : List Int) : Prop := ∀ x ∈ l, 0 ≤ x ∧ x ≤ 1000000
theorem accs_all {l : List Int} : l.all accOk = true ↔ accs l := by simp [accOk, List.all_eq_true]
theorem nth_set_ne {l : List Int} {i j : Nat} {v : Int} (h : i ≠ j) : nth (l.set i v) j = nth l j := by
  unfold nth
  simp [List.getD, List.getElem?_set, h]
theorem nth_set_eq {l : List Int} {i : Nat} {v : Int} (h : i < l.length) : nth (l.set i v) i = v := nth_set_same h
theorem movedP_len (l : List Int) (m : MoveT) : (movedP l m).length = l.length := by simp [movedP]
theorem movedP_at {l : List Int} {m : MoveT} (h : moveP m l.length = true) (j : Nat) (hj : j < l.length) : nth (movedP l m) j = if j = m.To.toNat then nth l j + m.Many else if j = m.From.toNat then nth l j - m.Many else nth l j := by
  obtain ⟨a, b, c, d⟩ := moveP_iff h
  unfold movedP
  by_cases h1 : j = m.To.toNat
  · subst h1; rw [if_pos rfl, nth_set_eq (by simpa using hj)]
  · rw [if_neg h1, nth_set_ne (Ne.symm h1)]
    by_cases h2 : j = m.From.toNat
    · subst h2; rw [if_pos rfl, nth_set_eq hj]
    · rw [if_neg h2, nth_set_ne (Ne.symm h2)]
theorem accs_nth {l : List Int} (h : accs l) {j : Nat} (hj : j < l.length) : 0 ≤ nth l j ∧ nth l j ≤ 1000000 := h _ (nth_mem hj)
theorem accs_of_nth {l : List Int} (h : ∀ j, j < l.length → 0 ≤ nth l j ∧ nth l j ≤ 1000000) : accs l := by
  intro x hx
  obtain ⟨j, hj, e⟩ := List.getElem_of_mem hx
  have := h j hj
  rwa [nth_eq hj, e] at this
theorem movedP_accs {l : List Int} {m : MoveT} (h : moveP m l.length = true) (ha : accs l) (hk : movedOk l m = true) : accs (movedP l m) := by
  obtain ⟨a, b, c, d⟩ := moveP_iff h
  unfold movedOk at hk
  simp only [Bool.and_eq_true, decide_eq_true_eq] at hk
  refine accs_of_nth fun j hj => ?_
  rw [movedP_len] at hj
  have hx := accs_nth ha hj
  rw [movedP_at h j hj]
  split
  · rename_i e; subst e; omega
  · split
    · rename_i e; subst e; omega
    · exact hx
theorem movedP_back {l : List Int} {m : MoveT} (h : moveP m l.length = true) : movedP (movedP l m) (backP m) = l := by
  obtain ⟨a, b, c, d⟩ := moveP_iff h
  have hb : moveP (backP m) (movedP l m).length = true := by rw [movedP_len]; exact moveP_back h
  refine list_ext (by rw [movedP_len, movedP_len]) fun j hj => ?_
  rw [movedP_len, movedP_len] at hj
  rw [movedP_at hb j (by rw [movedP_len]; exact hj), movedP_at h j hj]
  have hM : (backP m).Many = m.Many := rfl
  by_cases h1 : j = m.From.toNat
  · have : j ≠ m.To.toNat := by omega
    rw [if_pos (show j = (backP m).To.toNat from h1), if_neg this, if_pos h1, hM]; omega
  · rw [if_neg (show ¬ j = (backP m).To.toNat from h1)]
    by_cases h2 : j = m.To.toNat
    · rw [if_pos (show j = (backP m).From.toNat from h2), if_pos h2, hM]; omega
    · rw [if_neg (show ¬ j = (backP m).From.toNat from h2), if_neg h2, if_neg h1]
theorem movedOk_back {l : List Int} {m : MoveT} (h : moveP m l.length = true) (ha : accs l) : movedOk (movedP l m) (backP m) = true := by
  obtain ⟨a, b, c, d⟩ := moveP_iff h
  have h1 := accs_nth ha (j := m.To.toNat) (by omega)
  have h2 := accs_nth ha (j := m.From.toNat) (by omega)
  have e1 : nth (movedP l m) (backP m).From.toNat = nth l m.To.toNat + m.Many := by
    rw [show (backP m).From.toNat = m.To.toNat from rfl, movedP_at h _ (by omega), if_pos rfl]
  have e2 : nth (movedP l m) (backP m).To.toNat = nth l m.From.toNat - m.Many := by
    rw [show (backP m).To.toNat = m.From.toNat from rfl, movedP_at h _ (by omega), if_neg (by omega), if_pos rfl]
  unfold movedOk
  rw [e1, e2, show (backP m).Many = m.Many from rfl]
  simp only [Bool.and_eq_true, decide_eq_true_eq]
  omega

theorem nil_app {l : List Int} : ([] ++ l) = l := rfl
theorem spec_l9Do_eq (l : List Int) (m : MoveT) (hl : l.length ≤ 1000000) (h : moveP m l.length = true) (ha : accs l) : spec_l9Do l m = some (movedP l m, movedOk l m) := by
  obtain ⟨a, b, c, d⟩ := moveP_iff h
  have h1 := accs_nth ha (j := m.To.toNat) (by omega)
  have h2 := accs_nth ha (j := m.From.toNat) (by omega)
  unfold spec_l9Do
  simp only [nil_app]
  rw [guard_pos (by omega), guard_pos (by omega), guard_pos (by omega), guard_pos (by omega), guard_pos (by omega), guard_pos (by omega)]
  have e1 : wI (nth l m.From.toNat - m.Many) = nth l m.From.toNat - m.Many := wI_id (by omega)
  have e2 : nth (l.set m.From.toNat (nth l m.From.toNat - m.Many)) m.To.toNat = nth l m.To.toNat := nth_set_ne (by omega)
  simp only [e1, e2]
  have e3 : wI (nth l m.To.toNat + m.Many) = nth l m.To.toNat + m.Many := wI_id (by omega)
  simp only [e3]
  have f := movedP_at h m.From.toNat (by omega)
  have t := movedP_at h m.To.toNat (by omega)
  rw [if_neg (by omega), if_pos rfl] at f
  rw [if_pos rfl] at t
  unfold movedP at f t
  simp only [f, t]
  rw [guard_pos (by omega)]
  unfold movedP movedOk
  by_cases hc : 0 ≤ nth l m.From.toNat - m.Many
  · rw [if_pos (decide_eq_true hc), decide_eq_true hc, Bool.true_and]
  · rw [if_neg (by simpa using hc), decide_eq_false hc, Bool.false_and]
theorem spec_l9Do_F_eq (l : List Int) (m : MoveT) (hl : l.length ≤ 1000000) (h : moveP m l.length = true) (ha : accs l) : spec_l9Do_F l m = some (movedP l m, movedOk l m) := spec_l9Do_eq l m hl h ha
theorem impl_accountOk_eq (x : Int) : impl_accountOk x = some (accOk x) := by unfold impl_accountOk; rw [impl_in_eq]; rfl
theorem impl_moved_eq (l : List Int) (m : MoveT) (hl : l.length ≤ 1000000) (h : moveP m l.length = true) (ha : accs l) : impl_moved l m = some (movedP l m, movedOk l m) := by
  obtain ⟨a, b, c, d⟩ := moveP_iff h
  have h1 := accs_nth ha (j := m.To.toNat) (by omega)
  have h2 := accs_nth ha (j := m.From.toNat) (by omega)
  unfold impl_moved slices_Clone_int
  rw [guard_pos (by omega)]
  simp only [Option.bind_some]
  rw [guard_pos (by omega), guard_pos (by omega), guard_pos (by omega), guard_pos (by omega), guard_pos (by omega)]
  have e1 : wI (nth l m.From.toNat - m.Many) = nth l m.From.toNat - m.Many := wI_id (by omega)
  have e2 : nth (l.set m.From.toNat (nth l m.From.toNat - m.Many)) m.To.toNat = nth l m.To.toNat := nth_set_ne (by omega)
  simp only [e1, e2]
  have e3 : wI (nth l m.To.toNat + m.Many) = nth l m.To.toNat + m.Many := wI_id (by omega)
  simp only [e3]
  have f := movedP_at h m.From.toNat (by omega)
  have t := movedP_at h m.To.toNat (by omega)
  rw [if_neg (by omega), if_pos rfl] at f
  rw [if_pos rfl] at t
  unfold movedP at f t
  simp only [f, t]
  rw [guard_pos (by omega), impl_accountOk_eq, impl_accountOk_eq]
  simp only [Option.bind_some]
  unfold movedP movedOk accOk
  by_cases hc : 0 ≤ nth l m.From.toNat - m.Many
  · rw [if_pos (decide_eq_true (by omega)), decide_eq_true hc, Bool.true_and]
    congr 2
    rw [decide_eq_decide]; omega
  · rw [if_neg (by simp; omega), decide_eq_false hc, Bool.false_and]
theorem impl_moved_F_eq (l : List Int) (m : MoveT) (hl : l.length ≤ 1000000) (h : moveP m l.length = true) (ha : accs l) : impl_moved_F l m = some (movedP l m, movedOk l m) := impl_moved_eq l m hl h ha

/-- The accounts behind moves undone, the last one first (told in that order). -/
def undoP : List MoveT → List Int → Option (List Int)
  | [], l => some l
  | m :: r, l => if movedOk l (backP m) = true then undoP r (movedP l (backP m)) else none
theorem impl_back_eq : ∀ (r : List MoveT) (l : List Int), l.length ≤ 1000000 → (∀ m ∈ r, moveP m l.length = true) → accs l → impl_GoodSaga_back r l = some (undoP r l).isSome
  | [], l, _, _, _ => rfl
  | m :: r, l, hl, hm, ha => by
    have h := moveP_back (hm m (by simp))
    unfold impl_GoodSaga_back undoP impl_back
    simp only [Option.bind_some]
    have e := impl_moved_F_eq l (backP m) hl h ha
    unfold backP at e
    rw [e]
    simp only [Option.bind_some]
    show (if movedOk l (backP m) = true then impl_GoodSaga_back r (movedP l (backP m)) else some false) = _
    by_cases hk : movedOk l (backP m) = true
    · rw [if_pos hk, if_pos hk]
      exact impl_back_eq r _ (by rw [movedP_len]; exact hl) (fun x hx => by rw [movedP_len]; exact hm x (by simp [hx])) (movedP_accs h ha hk)
    · rw [if_neg hk, if_neg hk]; rfl
def goodSg (s : SagaT) : Bool := s.Accounts.all accOk && (decide (1 ≤ s.Accounts.length ∧ s.Accounts.length ≤ 8) && (decide (s.Moves.length ≤ 20) && (decide (0 ≤ s.Done ∧ s.Done ≤ s.Moves.length) && (s.Moves.all (fun m => moveP m s.Accounts.length) && (undoP (s.Moves.take s.Done.toNat).reverse s.Accounts).isSome))))
structure GoodSg (s : SagaT) : Prop where
  accs : accs s.Accounts
  len : 1 ≤ s.Accounts.length ∧ s.Accounts.length ≤ 8
  mlen : s.Moves.length ≤ 20
  done : 0 ≤ s.Done ∧ s.Done ≤ s.Moves.length
  moves : ∀ m ∈ s.Moves, moveP m s.Accounts.length = true
  undo : (undoP (s.Moves.take s.Done.toNat).reverse s.Accounts).isSome = true
theorem goodSg_iff {s : SagaT} : goodSg s = true ↔ GoodSg s := by
  unfold goodSg
  simp only [Bool.and_eq_true, accs_all, decide_eq_true_eq]
  rw [List.all_eq_true]
  exact ⟨fun ⟨a, b, c, d, e, f⟩ => ⟨a, b, c, d, e, f⟩, fun ⟨a, b, c, d, e, f⟩ => ⟨a, b, c, d, e, f⟩⟩

theorem spec_l9Move_eq (m : MoveT) (n : Nat) (hn : n ≤ 9223372036854775807) : spec_l9Move m (n : Int) = some (moveP m n) := by
  unfold spec_l9Move moveP
  simp only [spec_l1In_eq, Option.bind_some, wI_id (show -9223372036854775808 ≤ (n : Int) - 1 ∧ (n : Int) - 1 ≤ 9223372036854775807 by omega)]
  cases decide (0 ≤ m.From ∧ m.From ≤ (n : Int) - 1) <;> cases decide (0 ≤ m.To ∧ m.To ≤ (n : Int) - 1) <;> cases (m.From != m.To) <;> simp
theorem impl_moveOk_eq (m : MoveT) (n : Nat) (hn : n ≤ 9223372036854775807) : impl_moveOk m (n : Int) = some (moveP m n) := by
  unfold impl_moveOk moveP
  simp only [impl_in_eq, Option.bind_some, wI_id (show -9223372036854775808 ≤ (n : Int) - 1 ∧ (n : Int) - 1 ≤ 9223372036854775807 by omega)]
  cases decide (0 ≤ m.From ∧ m.From ≤ (n : Int) - 1) <;> cases decide (0 ≤ m.To ∧ m.To ≤ (n : Int) - 1) <;> cases (m.From != m.To) <;> simp
theorem spec_l9Accounts_eq (l : List Int) (hl : l.length ≤ 9223372036854775807) : spec_l9Accounts l = some (l.all accOk && decide (1 ≤ l.length ∧ l.length ≤ 8)) := by
  unfold spec_l9Accounts
  have key := all_loop (step := spec_l9Accounts_L1 l) (fun i => (⟨i⟩ : spec_l9Accounts_G1)) l.length (fun i => accOk (nth l i)) (.inr () : Unit ⊕ Unit) (.inl ()) (fun i hi hv => ?_) (fun hv => ?_)
  · rw [show (0 : Int) = ((0 : Nat) : Int) from rfl] at key ⊢
    rw [key, allN_nth]
    cases l.all accOk
    · simp
    · simp only [if_true, Option.bind_some, spec_l1In_eq, Bool.true_and]
      congr 1
      rw [decide_eq_decide]; omega
  · unfold spec_l9Accounts_L1
    dsimp only
    rw [if_pos (by simp; omega), guard_pos (by omega), spec_l1In_eq]
    simp only [Option.bind_some, Int.toNat_natCast, wI_id (show -9223372036854775808 ≤ (i : Int) + 1 ∧ (i : Int) + 1 ≤ 9223372036854775807 by omega)]
    show (if (!accOk (nth l i)) = true then _ else _) = _
    cases accOk (nth l i) <;> simp
  · unfold spec_l9Accounts_L1
    rw [if_neg (by simp)]
theorem impl_accountsOk_eq (l : List Int) (hl : l.length ≤ 9223372036854775807) : impl_accountsOk l = some (l.all accOk && decide (1 ≤ l.length ∧ l.length ≤ 8)) := by
  unfold impl_accountsOk slices_ContainsFunc_int_impl_accountsOk_c1 slices_IndexFunc_int_impl_accountsOk_c1
  have key := find_loop (step := slices_IndexFunc_int_impl_accountsOk_c1_L1 l) (fun i => (⟨i⟩ : slices_IndexFunc_int_impl_accountsOk_c1_G1)) l.length (fun i => !accOk (nth l i))
    (fun i => (.inl ⟨i⟩ : slices_IndexFunc_int_impl_accountsOk_c1_P1_0 ⊕ Unit)) (.inr ()) (fun i hi hv => ?_) ?_
  · rw [show (0 : Int) = ((0 : Nat) : Int) from rfl] at key ⊢
    rw [key, impl_in_eq]
    simp only [Option.bind_some]
    have hall : l.all accOk = !(findN (fun i => !accOk (nth l i)) l.length).isSome := by
      rw [findN_any (p := fun x => !accOk x)]
      rw [Bool.eq_iff_iff]; simp [List.all_eq_true, List.any_eq_true]
    rw [hall]
    by_cases hc : 1 ≤ l.length ∧ l.length ≤ 8
    · rw [if_pos (decide_eq_true (by omega)), decide_eq_true hc, Bool.and_true]
      cases findN (fun i => !accOk (nth l i)) l.length <;> simp
    · rw [if_neg (by simp; omega), decide_eq_false hc, Bool.and_false]
  · unfold slices_IndexFunc_int_impl_accountsOk_c1_L1 impl_accountsOk_c1
    simp (disch := omega) only [decide_eq_true_eq, if_pos, guard_pos, Int.toNat_natCast, wI_id, impl_accountOk_eq, Option.bind_some]
    cases accOk (nth l i) <;> rfl
  · unfold slices_IndexFunc_int_impl_accountsOk_c1_L1
    rw [if_neg (by simp)]
theorem impl_movesBad_eq (l : List MoveT) (s : SagaT) (hl : l.length ≤ 9223372036854775807) (hs : s.Accounts.length ≤ 9223372036854775807) : slices_ContainsFunc_impl_Move_impl_GoodSaga_c1r l s = some (!(l.all fun m => moveP m s.Accounts.length)) := by
  unfold slices_ContainsFunc_impl_Move_impl_GoodSaga_c1r slices_IndexFunc_impl_Move_impl_GoodSaga_c1r
  have key := find_loop (step := slices_IndexFunc_impl_Move_impl_GoodSaga_c1r_L1 l s) (fun i => (⟨i⟩ : slices_IndexFunc_impl_Move_impl_GoodSaga_c1r_G1)) l.length (fun i => !moveP (nth l i) s.Accounts.length)
    (fun i => (.inl ⟨i⟩ : slices_IndexFunc_impl_Move_impl_GoodSaga_c1r_P1_0 ⊕ Unit)) (.inr ()) (fun i hi hv => ?_) ?_
  · rw [show (0 : Int) = ((0 : Nat) : Int) from rfl] at key ⊢
    rw [key]
    have hall : (l.all fun m => moveP m s.Accounts.length) = !(findN (fun i => !moveP (nth l i) s.Accounts.length) l.length).isSome := by
      rw [findN_any (p := fun x => !moveP x s.Accounts.length)]
      rw [Bool.eq_iff_iff]; simp [List.all_eq_true, List.any_eq_true]
    rw [hall]
    cases findN (fun i => !moveP (nth l i) s.Accounts.length) l.length <;> simp
  · unfold slices_IndexFunc_impl_Move_impl_GoodSaga_c1r_L1 impl_GoodSaga_c1_r
    simp (disch := omega) only [decide_eq_true_eq, if_pos, guard_pos, Int.toNat_natCast, wI_id, impl_moveOk_eq, Option.bind_some]
    cases moveP (nth l i) s.Accounts.length <;> rfl
  · unfold slices_IndexFunc_impl_Move_impl_GoodSaga_c1r_L1
    rw [if_neg (by simp)]
theorem impl_GoodSaga_eq (s : SagaT) (h1 : s.Accounts.length ≤ 9223372036854775807) (h2 : s.Moves.length ≤ 9223372036854775807) : impl_GoodSaga s = some (goodSg s) := by
  unfold impl_GoodSaga
  rw [impl_movesBad_eq _ _ h2 h1, impl_accountsOk_eq _ h1, impl_in_eq]
  simp only [Option.bind_some]
  unfold goodSg
  cases hA : s.Accounts.all accOk
  · simp
  by_cases hB : 1 ≤ s.Accounts.length ∧ s.Accounts.length ≤ 8
  rotate_left
  · simp [decide_eq_false hB]
  rw [decide_eq_true hB]
  simp only [Bool.true_and, Bool.not_true, Bool.false_eq_true, if_false]
  by_cases hC : s.Moves.length ≤ 20
  rotate_left
  · rw [if_pos (by omega), decide_eq_false hC]; simp
  rw [if_neg (by omega), decide_eq_true hC, Bool.true_and]
  cases hM : s.Moves.all fun m => moveP m s.Accounts.length
  · simp
  simp only [Bool.not_true, Bool.false_eq_true, if_false, Bool.true_and]
  by_cases hD : 0 ≤ s.Done ∧ s.Done ≤ s.Moves.length
  rotate_left
  · rw [decide_eq_false hD]; simp
  rw [decide_eq_true hD]
  simp only [Bool.not_true, Bool.false_eq_true, if_false, Bool.true_and]
  rw [guard_pos hD]
  exact impl_back_eq _ _ (by omega) (fun m hm => by
    rw [List.all_eq_true] at hM
    exact hM m (List.mem_of_mem_take (List.mem_reverse.1 hm))) (accs_all.1 hA)
theorem spec_undo_loop (s : SagaT) (hl : s.Moves.length ≤ 20) (hm : ∀ m ∈ s.Moves, moveP m s.Accounts.length = true) (ha1 : s.Accounts.length ≤ 1000000) : ∀ (k : Nat) (l : List Int), k ≤ s.Moves.length → l.length = s.Accounts.length → accs l →
    loopF (spec_GoodSaga_L2 s) ⟨l, (k : Int) - 1⟩ = some (if (undoP (s.Moves.take k).reverse l).isSome = true then .inr () else .inl ()) := by
  intro k
  induction k with
  | zero =>
    intro l _ _ _
    refine loop_out ?_
    unfold spec_GoodSaga_L2
    rw [if_neg (by simp)]
    simp [undoP]
  | succ k ih =>
    intro l hk hll ha
    have hmk := hm (s.Moves[k]) (List.getElem_mem (by omega))
    rw [← hll] at hmk
    have htk : (s.Moves.take (k + 1)).reverse = s.Moves[k] :: (s.Moves.take k).reverse := by
      rw [List.take_add_one, List.getElem?_eq_getElem (by omega : k < s.Moves.length)]
      simp
    have e1 : ((k + 1 : Nat) : Int) - 1 = (k : Int) := by omega
    rw [e1, htk]
    have hstep : spec_GoodSaga_L2 s ⟨l, (k : Int)⟩ = if movedOk l (backP s.Moves[k]) = true then some (.inl ⟨movedP l (backP s.Moves[k]), (k : Int) - 1⟩) else some (.inr (.inl ())) := by
      unfold spec_GoodSaga_L2 spec_l9Back
      dsimp only
      rw [if_pos (by simp), guard_pos (by omega), Int.toNat_natCast, nth_eq (show k < s.Moves.length by omega)]
      simp only [Option.bind_some]
      have e := spec_l9Do_F_eq l (backP s.Moves[k]) (by omega) (moveP_back hmk) ha
      unfold backP at e
      rw [e, wI_id (by omega)]
      simp only [Option.bind_some]
      show (if (!movedOk l (backP s.Moves[k])) = true then _ else _) = _
      cases movedOk l (backP s.Moves[k]) <;> simp [backP]
    unfold undoP
    by_cases hk2 : movedOk l (backP s.Moves[k]) = true
    · rw [if_pos hk2] at hstep ⊢
      rw [loop_on hstep]
      exact ih _ (by omega) (by rw [movedP_len]; exact hll) (movedP_accs (moveP_back hmk) ha hk2)
    · rw [if_neg hk2] at hstep ⊢
      rw [loop_out hstep]; rfl
theorem spec_GoodSaga_eq (s : SagaT) (h1 : s.Accounts.length ≤ 9223372036854775807) (h2 : s.Moves.length ≤ 9223372036854775807) : spec_GoodSaga s = some (goodSg s) := by
  unfold spec_GoodSaga
  rw [spec_l9Accounts_eq _ h1, spec_l1In_eq]
  simp only [Option.bind_some]
  unfold goodSg
  cases hA : s.Accounts.all accOk
  · simp
  by_cases hB : 1 ≤ s.Accounts.length ∧ s.Accounts.length ≤ 8
  rotate_left
  · simp [decide_eq_false hB]
  rw [decide_eq_true hB]
  simp only [Bool.true_and, Bool.and_true, Bool.not_true, Bool.false_eq_true, if_false]
  by_cases hC : s.Moves.length ≤ 20
  rotate_left
  · rw [if_pos (by simp; omega), decide_eq_false hC]; simp
  rw [if_neg (by simp; omega), decide_eq_true hC, Bool.true_and]
  by_cases hD : 0 ≤ s.Done ∧ s.Done ≤ s.Moves.length
  rotate_left
  · rw [decide_eq_false hD]; simp
  rw [decide_eq_true hD]
  simp only [Option.bind_some, Bool.not_true, Bool.false_eq_true, if_false, Bool.true_and]
  have key := all_loop (step := spec_GoodSaga_L1 s) (fun i => (⟨i⟩ : spec_GoodSaga_G1)) s.Moves.length (fun i => moveP (nth s.Moves i) s.Accounts.length) (.inr () : Unit ⊕ Unit) (.inl ()) (fun i hi hv => ?_) (fun hv => ?_)
  rotate_left
  · unfold spec_GoodSaga_L1
    dsimp only
    rw [if_pos (by simp; omega), guard_pos (by omega), Int.toNat_natCast, spec_l9Move_eq _ _ h1]
    simp only [Option.bind_some, wI_id (show -9223372036854775808 ≤ (i : Int) + 1 ∧ (i : Int) + 1 ≤ 9223372036854775807 by omega)]
    cases moveP (nth s.Moves i) s.Accounts.length <;> simp
  · unfold spec_GoodSaga_L1
    rw [if_neg (by simp)]
  rw [show (0 : Int) = ((0 : Nat) : Int) from rfl] at key ⊢
  rw [key, allN_nth (p := fun m => moveP m s.Accounts.length)]
  cases hM : s.Moves.all fun m => moveP m s.Accounts.length
  · simp
  simp only [if_true, Option.bind_some, Bool.true_and]
  obtain ⟨d, hd⟩ : ∃ d : Nat, s.Done = (d : Int) := ⟨s.Done.toNat, by omega⟩
  rw [hd, wI_id (by omega), Int.toNat_natCast, spec_undo_loop s hC (by rw [List.all_eq_true] at hM; exact hM) (by omega) d _ (by omega) rfl (accs_all.1 hA)]
  cases (undoP (List.take d s.Moves).reverse s.Accounts).isSome <;> rfl
end Go.TL

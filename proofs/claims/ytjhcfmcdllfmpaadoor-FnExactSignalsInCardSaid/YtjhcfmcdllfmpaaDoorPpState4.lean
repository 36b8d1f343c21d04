import Derived.Test.YtjhcfmcdllfmpaaDoorPpState3
set_option linter.unusedSimpArgs false
set_option linter.unusedVariables false
set_option linter.unusedVariables false
set_option linter.unusedSimpArgs false
namespace Go.TL

theorem foldQ_good : ∀ (r : List EventT) (s : StateT) (n : Nat), goodS s = true → goodS (foldQ r s n).1 = true
  | [], s, n, h => h
  | e :: r, s, n, h => by
    unfold foldQ
    cases ha : applyP s e with
    | some t => exact foldQ_good r t (n + 1) (applyP_good ha)
    | none => exact h
theorem foldP_good (l : List EventT) : goodS (foldP l).1 = true := foldQ_good l newS 0 newS_good
theorem foldP_len (l : List EventT) : (foldP l).1.Signals.length ≤ 30 ∧ (foldP l).1.Timers.length ≤ 30 := by
  have := goodS_num (foldP_good l)
  exact ⟨okL_len this.2.2.2.1, okL_len this.2.2.2.2⟩

def ascP (l : List EventT) : Bool := allN (fun i => decide (i = 0) || !decide ((nth l i).Version < (nth l (i - 1)).Version)) l.length
def histP (l : List EventT) : Bool := ascP l && decide ((foldP l).2 = l.length) && decide (l.length ≤ 60)
theorem impl_IsHistory_eq (l : List EventT) (hl : l.length ≤ 9223372036854775807) : impl_IsHistory l = some (histP l) := by
  unfold impl_IsHistory histP
  by_cases h : l.length ≤ 60
  rotate_left
  · rw [if_pos (by simp; omega)]; simp [h]
  rw [if_neg (by simp; omega)]
  have key := all_loop (step := impl_IsHistory_L1 l) (fun i => (⟨i⟩ : impl_IsHistory_G1)) l.length (fun i => decide (i = 0) || !decide ((nth l i).Version < (nth l (i - 1)).Version)) (.inr () : Unit ⊕ Unit) (.inl ()) (fun i hi hv => ?_) (fun _ => ?_)
  · rw [key]
    unfold ascP
    cases allN (fun i => decide (i = 0) || !decide ((nth l i).Version < (nth l (i - 1)).Version)) l.length
    · simp
    · simp only [if_true, Option.bind_some]
      rw [impl_FoldEvents_eq l hl]
      simp only [Option.bind_some, Bool.true_and, decide_eq_true h, Bool.and_true]
      congr 1
      rw [Bool.eq_iff_iff, beq_iff_eq, decide_eq_true_eq]; omega
  · unfold impl_IsHistory_L1
    have e1 : wI ((i : Int) + 1) = ((i + 1 : Nat) : Int) := by rw [wI_id (by omega)]; omega
    dsimp only
    rw [if_pos (by simp; omega), e1, guard_pos (by omega)]
    by_cases h0 : i = 0
    · subst h0
      simp
    · have e2 : wI ((i : Int) - 1) = ((i - 1 : Nat) : Int) := by rw [wI_id (by omega)]; omega
      rw [if_pos (by simp; omega), e2, guard_pos (by omega)]
      simp only [Option.bind_some, Int.toNat_natCast, decide_eq_false h0, Bool.false_or]
      cases decide ((nth l i).Version < (nth l (i - 1)).Version) <;> rfl
  · unfold impl_IsHistory_L1
    rw [if_neg (by simp)]
theorem spec_IsHistory_eq (l : List EventT) (hl : ok_LEvent l) : spec_IsHistory l = some (histP l) := by
  have hl1 := hl.1
  unfold spec_IsHistory histP
  have key := all_loop (step := spec_IsHistory_L1 l) (fun i => (⟨i⟩ : spec_IsHistory_G1)) l.length (fun i => decide (i = 0) || !decide ((nth l i).Version < (nth l (i - 1)).Version)) (.inr () : Unit ⊕ Unit) (.inl ()) (fun i hi hv => ?_) (fun _ => ?_)
  · rw [key]
    unfold ascP
    cases allN (fun i => decide (i = 0) || !decide ((nth l i).Version < (nth l (i - 1)).Version)) l.length
    · simp
    · simp only [if_true, Option.bind_some]
      rw [spec_l12Fold_eq l hl]
      simp only [Option.bind_some, Bool.true_and]
      have e1 : ((((foldP l).2 : Nat) : Int) == ((l.length : Nat) : Int)) = decide ((foldP l).2 = l.length) := by
        rw [Bool.eq_iff_iff, beq_iff_eq, decide_eq_true_eq]; omega
      have e2 : decide (((l.length : Nat) : Int) ≤ 60) = decide (l.length ≤ 60) := by congr 1; apply propext; omega
      rw [e1, e2]
      cases decide ((foldP l).2 = l.length) <;> rfl
  · unfold spec_IsHistory_L1
    have e1 : wI ((i : Int) + 1) = ((i + 1 : Nat) : Int) := by rw [wI_id (by omega)]; omega
    dsimp only
    rw [if_pos (by simp; omega), e1]
    by_cases h0 : i = 0
    · subst h0
      simp
    · have e2 : wI ((i : Int) - 1) = ((i - 1 : Nat) : Int) := by rw [wI_id (by omega)]; omega
      rw [if_pos (by simp; omega), e2, guard_pos (by omega), guard_pos (by omega)]
      simp only [Option.bind_some, Int.toNat_natCast, decide_eq_false h0, Bool.false_or, gt_iff_lt]
      cases decide ((nth l i).Version < (nth l (i - 1)).Version) <;> rfl
  · unfold spec_IsHistory_L1
    rw [if_neg (by simp)]

def sigP (l : List EventT) : List ByteArray × Bool := if histP l = true then ((foldP l).1.Signals, true) else ([], false)
theorem sigP_len (l : List EventT) : (sigP l).1.length ≤ 30 := by
  unfold sigP
  split
  · exact (foldP_len l).1
  · simp
theorem spec_SignalsIn_eq (l : List EventT) (hl : ok_LEvent l) : spec_SignalsIn l = some (sigP l) := by
  unfold spec_SignalsIn sigP
  rw [spec_IsHistory_eq l hl]
  simp only [Option.bind_some]
  cases histP l
  · simp
  · have := (foldP_len l).1
    rw [if_neg (by simp), spec_l12Fold_eq l hl]
    simp only [Option.bind_some]
    rw [guard_pos (by omega)]
    simp
theorem impl_SignalsIn_eq (l : List EventT) (hl : l.length ≤ 9223372036854775807) : impl_SignalsIn l = some (sigP l) := by
  unfold impl_SignalsIn sigP
  rw [impl_IsHistory_eq l hl]
  simp only [Option.bind_some]
  cases histP l
  · simp
  · rw [if_neg (by simp), impl_FoldEvents_eq l hl]
    simp

noncomputable def mEvent (k : Int) : EventT := ⟨k, k + 1, k + 2, mtext (k + 3)⟩
theorem mark_EventS_eq (l : List EventT) (k : Int) (hk : 0 ≤ k) (hl : l.length ≤ 1099511627776) (hb : k + ((4 * l.length : Nat) : Int) ≤ 1152921504606846976) :
    laws_markEventS_w l k = some (k + ((4 * l.length : Nat) : Int), marks mEvent 4 k l.length) := by
  unfold laws_markEventS_w
  have key := mark_loop (step := laws_markEventS_w_L1) (fun i k l => (⟨k, i, l⟩ : laws_markEventS_w_G1)) 4 mEvent l.length 1152921504606846976 (fun k l => (⟨k, l⟩ : laws_markEventS_w_P1_0)) (fun i k l' hi hl' h0 h1 => ?_) (fun k l' hl' => ?_) k l rfl hk hb
  · rw [key]; rfl
  · unfold laws_markEventS_w_L1
    have e1 : wI (k + 1) = k + 1 := wI_id (by omega)
    have e2 : wI (k + 1 + 1) = k + 2 := by rw [wI_id (by omega)]; omega
    have e3 : wI (k + 2 + 1) = k + 3 := by rw [wI_id (by omega)]; omega
    have e4 : wI (k + 3 + 1) = k + 4 := by rw [wI_id (by omega)]; omega
    have e5 : wI ((i : Int) + 1) = ((i + 1 : Nat) : Int) := by rw [wI_id (by omega)]; omega
    simp only [e1, e2, e3, e4, e5]
    rw [if_pos (by simp; omega), markText_eq (k + 3) (by omega) (by omega)]
    simp (disch := omega) only [Option.bind_some, guard_pos, Int.toNat_natCast, nth_set_same, List.set_set, List.length_set]
    rfl
  · unfold laws_markEventS_w_L1
    rw [if_neg (by simp; omega)]

theorem signals_holds (l : List EventT) (hl : ok_LEvent l) : laws_FnExactSignalsIn l = some true := by
  unfold laws_FnExactSignalsIn
  rw [laws_szEventS_eq _ _ hl (by omega) (by omega)]
  simp only [Option.bind_some]
  by_cases h : (siz_LEvent l : Int) ≤ 1048576
  rotate_left
  · rw [if_pos (decide_eq_true (szr_no h))]
  rw [if_neg (by simpa using szr_ok h), laws_toEventS_eq _ (by omega)]
  have hz : l.length ≤ 1048576 := by unfold siz_LEvent at h; omega
  have hr := sigP_len l
  simp only [Option.bind_some]
  rw [spec_SignalsIn_eq _ hl, impl_SignalsIn_eq _ hl.1]
  simp only [Option.bind_some]
  have hk : lk_LS (sigP l).1 := ⟨by omega, fun y _ => trivial⟩
  rw [laws_eqStringS_eq _ _ hk, laws_eqEventS_eq _ _ (lk_of_LEvent hl)]
  simp only [Option.bind_some, decide_true, Bool.not_true, beq_self_eq_true, Bool.false_eq_true, if_false]
  rw [mark_EventS_eq l 1 (by omega) (by omega) (by omega), mark_StringS_eq (sigP l).1 1 (by omega) (by omega) (by omega)]
  simp only [Option.bind_some]
  rw [guard_pos (marks_length ..), if_neg (by simp; omega)]
  simp only [Option.bind_some, Bool.false_eq_true, if_false]
  rw [guard_pos (marks_length ..), held_StringS_eq _ 1 (by omega) (by omega) (by omega)]
  simp only [Option.bind_some]
  rw [if_neg (by simp; omega), if_neg (by simp), if_neg (by simp; omega), if_neg (by simp)]

theorem spec_fold_w_loop (l : List EventT) (hl : ok_LEvent l) : ∀ (r : List EventT) (i : Nat) (s : StateT), l.drop i = r → i ≤ l.length → goodS s = true →
    ∃ y, loopF (spec_l12Fold_w_L1 l) ⟨(i : Int), s.Status, s.Next, s.Cancel, s.Done, s.Signals, s.Timers⟩ = some y ∧ (match y with
      | .inl p77 => some ((⟨p77.b1_0, p77.b1_1, p77.b1_2, p77.b1_3, p77.b1_4, p77.b1_5⟩ : StateT), p77.t3)
      | .inr p78 => some ((⟨p78.b2_0, p78.b2_1, p78.b2_2, p78.b2_3, p78.b2_4, p78.b2_5⟩ : StateT), ((l.length : Nat) : Int))) = some ((foldQ r s i).1, (((foldQ r s i).2 : Nat) : Int)) := by
  have hl1 := hl.1
  intro r
  induction r with
  | nil =>
    intro i s hd hi hs
    have hi' := drop_nil hd hi
    subst hi'
    refine ⟨_, loop_out (by unfold spec_l12Fold_w_L1; rw [if_neg (by simp)]), rfl⟩
  | cons e r ih =>
    intro i s hd hi hs
    obtain ⟨hlt, hy, hr⟩ := drop_cons hd
    have hne : ok_S e.Name := by rw [← hy]; exact (hl.2 _ (nth_mem hlt)).2.2.2
    obtain ⟨q, hq, ha⟩ := spec_l12Apply_eq s e hs hne
    have hstep : spec_l12Fold_w_L1 l ⟨(i : Int), s.Status, s.Next, s.Cancel, s.Done, s.Signals, s.Timers⟩ = some (match applyP s e with
        | some t => .inl ⟨((i + 1 : Nat) : Int), t.Status, t.Next, t.Cancel, t.Done, t.Signals, t.Timers⟩
        | none => .inr (.inl ⟨(i : Int), s.Status, s.Next, s.Cancel, s.Done, s.Signals, s.Timers⟩)) := by
      unfold spec_l12Fold_w_L1
      have e1 : wI ((i : Int) + 1) = ((i + 1 : Nat) : Int) := by rw [wI_id (by omega)]; omega
      simp only [Int.toNat_natCast, hy, e1]
      rw [if_pos (by simp; omega), guard_pos (by omega)]
      have hq' : spec_l12Apply ⟨s.Status, s.Next, s.Cancel, s.Done, s.Signals, s.Timers⟩ e = some q := hq
      rw [hq', ha]
      simp only [Option.bind_some]
      cases q.2 <;> rfl
    unfold foldQ
    cases hb : applyP s e with
    | some t =>
      rw [hb] at hstep
      rw [loop_on hstep]
      exact ih (i + 1) t hr (by omega) (applyP_good hb)
    | none =>
      rw [hb] at hstep
      exact ⟨_, loop_out hstep, rfl⟩
theorem spec_FoldEvents_w_eq (l : List EventT) (hl : ok_LEvent l) : spec_FoldEvents_w l = some ((foldP l).1, (((foldP l).2 : Nat) : Int)) := by
  unfold spec_FoldEvents_w spec_l12Fold_w spec_NewState
  simp only [Option.bind_some]
  obtain ⟨y, hy, he⟩ := spec_fold_w_loop l hl l 0 newS rfl (by omega) newS_good
  have hy' : loopF (spec_l12Fold_w_L1 l) ⟨0, 0, 1, false, 0, [], []⟩ = some y := hy
  rw [hy']
  simp only [Option.bind_some]
  cases y with
  | inl p => exact congrArg (fun o => Option.bind o fun c : StateT × Int => some (c.1, c.2)) he
  | inr p => exact congrArg (fun o => Option.bind o fun c : StateT × Int => some (c.1, c.2)) he
theorem mark_State_eq (s : StateT) (k : Int) (hk : 0 ≤ k) (h1 : s.Signals.length ≤ 1099511627776) (h2 : s.Timers.length ≤ 1099511627776) (hb : k ≤ 1099511627776) :
    laws_markState_ww s k = some (k + ((1 * s.Signals.length : Nat) : Int) + ((1 * s.Timers.length : Nat) : Int), marks mtext 1 k s.Signals.length, marks mtext 1 (k + ((1 * s.Signals.length : Nat) : Int)) s.Timers.length) := by
  unfold laws_markState_ww
  rw [mark_StringS_eq _ _ hk h1 (by omega)]
  simp only [Option.bind_some]
  rw [guard_pos (marks_length ..), mark_StringS_eq _ _ (by omega) h2 (by omega)]
  simp only [Option.bind_some]
  rw [guard_pos (marks_length ..)]
theorem held_State_eq (a b d : Int) (c : Bool) (n1 n2 : Nat) (k : Int) (hk : 0 ≤ k) (h1 : n1 ≤ 1099511627776) (h2 : n2 ≤ 1099511627776) (hb : k ≤ 1099511627776) :
    laws_heldState ⟨a, b, c, d, marks mtext 1 k n1, marks mtext 1 (k + ((1 * n1 : Nat) : Int)) n2⟩ k = some (k + ((1 * n1 : Nat) : Int) + ((1 * n2 : Nat) : Int)) := by
  unfold laws_heldState
  simp only
  rw [held_StringS_eq _ _ hk h1 (by omega)]
  simp only [Option.bind_some]
  rw [if_neg (by simp; omega), held_StringS_eq _ _ (by omega) h2 (by omega)]
  simp only [Option.bind_some]
  rw [if_neg (by simp; omega)]
theorem fold_holds (l : List EventT) (hl : ok_LEvent l) : laws_FnExactFoldEvents l = some true := by
  unfold laws_FnExactFoldEvents
  rw [laws_szEventS_eq _ _ hl (by omega) (by omega)]
  simp only [Option.bind_some]
  by_cases h : (siz_LEvent l : Int) ≤ 1048576
  rotate_left
  · rw [if_pos (decide_eq_true (szr_no h))]
  rw [if_neg (by simpa using szr_ok h), laws_toEventS_eq _ (by omega)]
  have hz : l.length ≤ 1048576 := by unfold siz_LEvent at h; omega
  obtain ⟨hr1, hr2⟩ := foldP_len l
  simp only [Option.bind_some]
  rw [spec_FoldEvents_w_eq _ hl, impl_FoldEvents_eq _ hl.1]
  simp only [Option.bind_some]
  have hk : lk_State (foldP l).1 := ⟨trivial, trivial, trivial, trivial, ⟨by omega, fun y _ => trivial⟩, ⟨by omega, fun y _ => trivial⟩⟩
  rw [laws_eqState_eq _ _ hk, laws_eqEventS_eq _ _ (lk_of_LEvent hl)]
  simp only [Option.bind_some, decide_true, Bool.not_true, bne_self_eq_false, Bool.false_eq_true, if_false]
  rw [mark_EventS_eq l 1 (by omega) (by omega) (by omega), mark_State_eq (foldP l).1 1 (by omega) (by omega) (by omega) (by omega)]
  simp only [Option.bind_some]
  rw [guard_pos (marks_length ..), if_neg (by simp; omega)]
  simp only [Option.bind_some, Bool.false_eq_true, if_false]
  rw [guard_pos (marks_length ..), guard_pos (marks_length ..), held_State_eq _ _ _ _ _ _ 1 (by omega) (by omega) (by omega) (by omega)]
  simp only [Option.bind_some]
  rw [if_neg (by simp; omega), if_neg (by simp), if_neg (by simp; omega), if_neg (by simp)]
end Go.TL

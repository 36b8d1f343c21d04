/- The law of PlayQueue. -/
import Derived.Test.YtoabnifimfcbcaaPpPlayQ
set_option linter.unusedVariables false
set_option linter.unusedSimpArgs false
namespace Go.TL

theorem play_loop {γ τ : Type} {step : γ → Option (γ ⊕ τ)} (mk : Int → QueueT × List Bool → γ) (l : List LineStepT) (late : QueueT × List Bool → τ)
    (hs : ∀ (i : Nat) (x : QueueT × List Bool), i < l.length → GQ x.1 → x.2.length = i → step (mk i x) = some (.inl (mk (i + 1 : Nat) ((stepP x.1 (nth l i)).1, x.2 ++ [(stepP x.1 (nth l i)).2]))))
    (he : ∀ x : QueueT × List Bool, GQ x.1 → step (mk l.length x) = some (.inr (late x))) (q : QueueT) (hq : GQ q) : loopF step (mk 0 (q, [])) = some (late (playP l q [])) := by
  have key : ∀ (m i : Nat) (x : QueueT × List Bool), i + m = l.length → GQ x.1 → x.2.length = i → loopF step (mk i x) = some (late (playP (l.drop i) x.1 x.2)) := by
    intro m
    induction m with
    | zero =>
      intro i x h hx _
      have e : i = l.length := by omega
      subst e
      rw [loop_out (he x hx), List.drop_length]
      rfl
    | succ m ih =>
      intro i x h hx hd
      have hi : i < l.length := by omega
      rw [loop_on (hs i x hi hx hd), ih (i + 1) _ (by omega) (step_good hx _) (by simp only [List.length_append, List.length_cons, List.length_nil]; omega)]
      rw [List.drop_eq_getElem_cons hi, nth_eq hi]
      rfl
  have := key l.length 0 (q, []) (by omega) hq rfl
  simpa using this

theorem queue_eta' (q : QueueT) : (⟨q.Window, q.Sent, q.Base, q.Got, q.Line⟩ : QueueT) = q := rfl

theorem spec_PlayQueue_eq (w : Int) (l : List LineStepT) : spec_PlayQueue w l = some (playQ w l) := by
  unfold spec_PlayQueue spec_NewQueue playQ
  rw [spec_l1In_eq]
  simp only [Option.bind_some]
  by_cases h1 : 1 ≤ w ∧ w ≤ 10
  rotate_left
  · rw [decide_eq_false h1, if_pos (by simp), if_neg (fun h => h1 h.1)]
    simp only [Option.bind_some]
    rw [if_pos (by simp)]
    simp only [Option.bind_some, if_true]
    rfl
  rw [decide_eq_true h1, if_neg (by simp)]
  simp only [Option.bind_some]
  rw [if_neg (by simp)]
  simp only [Option.bind_some]
  by_cases h2 : l.length ≤ 200
  rotate_left
  · rw [if_pos (by simp; omega), if_neg (fun h => h2 h.2)]; rfl
  rw [if_neg (by simp; omega), if_pos ⟨h1, h2⟩]
  have key := play_loop (step := spec_PlayQueue_L1 l) (fun i x => (⟨i, x.1.Window, x.1.Base, x.2, x.1.Sent, x.1.Got, x.1.Line⟩ : spec_PlayQueue_G1)) l
    (fun x => (⟨x.1.Window, x.1.Base, x.2, x.1.Sent, x.1.Got, x.1.Line⟩ : spec_PlayQueue_P1_0)) (fun i x hi hx hd => ?_) (fun x hx => ?_) ⟨w, [], 0, [], []⟩ (goodNew h1)
  · rw [key]
    simp only [Option.bind_some]
    have hg := play_good l (d := []) (goodNew h1)
    obtain ⟨_, _, s1, s2, s3⟩ := hg.small
    rw [queue_eta', own_eq _ (by omega) (by omega) (by omega)]
    rfl
  · obtain ⟨a1, a2, s1, s2, s3⟩ := hx.small
    unfold spec_PlayQueue_L1
    simp only
    rw [if_pos (by simp; omega), guard_pos (by omega), queue_eta', own_eq _ (by omega) (by omega) (by omega)]
    simp only [Option.bind_some, Int.toNat_natCast]
    rw [spec_step_eq _ _ hx.small]
    simp only [Option.bind_some]
    have e4 : wI ((i : Int) + 1) = ((i + 1 : Nat) : Int) := by rw [wI_id (by omega)]; omega
    by_cases h : (stepP x.1 (nth l i)).2 = true
    · rw [if_pos h, guard_pos (by omega), e4]
    · rw [if_neg h, guard_pos (by omega), e4, step_no h]
  · unfold spec_PlayQueue_L1
    rw [if_neg (by simp)]

theorem impl_PlayQueue_eq (w : Int) (l : List LineStepT) : impl_PlayQueue w l = some (playQ w l) := by
  unfold impl_PlayQueue impl_NewQueue playQ
  rw [impl_in_eq]
  simp only [Option.bind_some]
  by_cases h1 : 1 ≤ w ∧ w ≤ 10
  rotate_left
  · rw [decide_eq_false h1, if_pos (by simp), if_neg (fun h => h1 h.1)]
    simp only [Option.bind_some]
    rw [if_pos (by simp)]
    simp only [Option.bind_some, if_true]
    rfl
  rw [decide_eq_true h1, if_neg (by simp)]
  simp only [Option.bind_some]
  rw [if_neg (by simp)]
  simp only [Option.bind_some]
  by_cases h2 : l.length ≤ 200
  rotate_left
  · rw [if_pos (by simp; omega), if_neg (fun h => h2 h.2)]; rfl
  rw [if_neg (by simp; omega), if_pos ⟨h1, h2⟩]
  have key := play_loop (step := impl_PlayQueue_L1 l) (fun i x => (⟨i, x.1.Window, x.1.Base, x.2, x.1.Sent, x.1.Got, x.1.Line⟩ : impl_PlayQueue_G1)) l
    (fun x => (⟨x.1.Window, x.1.Base, x.2, x.1.Sent, x.1.Got, x.1.Line⟩ : impl_PlayQueue_P1_0)) (fun i x hi hx hd => ?_) (fun x hx => ?_) ⟨w, [], 0, [], []⟩ (goodNew h1)
  · rw [key]
    rfl
  · unfold impl_PlayQueue_L1
    simp only
    rw [if_pos (by simp; omega), guard_pos (by omega), queue_eta']
    simp only [Int.toNat_natCast]
    rw [impl_step_eq _ _ hx.small]
    simp only [Option.bind_some]
    have e4 : wI ((i : Int) + 1) = ((i + 1 : Nat) : Int) := by rw [wI_id (by omega)]; omega
    rw [guard_pos (by omega), e4]
  · unfold impl_PlayQueue_L1
    rw [if_neg (by simp)]

theorem playQ_len (w : Int) (l : List LineStepT) : (playQ w l).1.Sent.length ≤ 1001 ∧ (playQ w l).1.Got.length ≤ 1001 ∧ (playQ w l).1.Line.length ≤ 1002 ∧ (playQ w l).2.1.length ≤ 200 := by
  unfold playQ
  split
  · rename_i h
    have hg := play_good l (d := []) (goodNew h.1)
    obtain ⟨_, _, s1, s2, s3⟩ := hg.small
    refine ⟨by simp only; omega, by simp only; omega, by simp only; omega, ?_⟩
    simp only
    rw [play_len]; simp; omega
  · simp [zeroQ]

/-! ### marks of bools and steps -/
def mBool (k : Int) : Bool := k.tmod 3 == 0
noncomputable def mLineStep (k : Int) : LineStepT := ⟨k, k + 1, mtext (k + 2)⟩
theorem mark_BoolS_eq (l : List Bool) (k : Int) (hk : 0 ≤ k) (hl : l.length ≤ 1099511627776) (hb : k + ((1 * l.length : Nat) : Int) ≤ 1152921504606846976) :
    laws_markBoolS_w l k = some (k + ((1 * l.length : Nat) : Int), marks mBool 1 k l.length) := by
  unfold laws_markBoolS_w
  have key := mark_loop (step := laws_markBoolS_w_L1) (fun i k l => (⟨k, i, l⟩ : laws_markBoolS_w_G1)) 1 mBool l.length 1152921504606846976 (fun k l => (⟨k, l⟩ : laws_markBoolS_w_P1_0)) (fun i k l' hi hl' h0 h1 => ?_) (fun k l' hl' => ?_) k l rfl hk hb
  · rw [key]; rfl
  · unfold laws_markBoolS_w_L1
    rw [if_pos (by simp; omega)]
    simp (disch := omega) only [Option.bind_some, guard_pos, Int.toNat_natCast, wI_id]
    rfl
  · unfold laws_markBoolS_w_L1
    rw [if_neg (by simp; omega)]
theorem mark_LineStepS_eq (l : List LineStepT) (k : Int) (hk : 0 ≤ k) (hl : l.length ≤ 1099511627776) (hb : k + ((3 * l.length : Nat) : Int) ≤ 1152921504606846976) :
    laws_markLineStepS_w l k = some (k + ((3 * l.length : Nat) : Int), marks mLineStep 3 k l.length) := by
  unfold laws_markLineStepS_w
  have key := mark_loop (step := laws_markLineStepS_w_L1) (fun i k l => (⟨k, i, l⟩ : laws_markLineStepS_w_G1)) 3 mLineStep l.length 1152921504606846976 (fun k l => (⟨k, l⟩ : laws_markLineStepS_w_P1_0)) (fun i k l' hi hl' h0 h1 => ?_) (fun k l' hl' => ?_) k l rfl hk hb
  · rw [key]; rfl
  · unfold laws_markLineStepS_w_L1
    have e1 : wI (k + 1) = k + 1 := wI_id (by omega)
    have e2 : wI (k + 1 + 1) = k + 2 := by rw [wI_id (by omega)]; omega
    have e3 : wI (k + 2 + 1) = k + 3 := by rw [wI_id (by omega)]; omega
    have e4 : wI ((i : Int) + 1) = ((i + 1 : Nat) : Int) := by rw [wI_id (by omega)]; omega
    simp only [e1, e2, e3, e4]
    rw [if_pos (by simp; omega), markText_eq (k + 2) (by omega) (by omega)]
    simp (disch := omega) only [Option.bind_some, guard_pos, Int.toNat_natCast, nth_set_same, List.set_set, List.length_set]
    rfl
  · unfold laws_markLineStepS_w_L1
    rw [if_neg (by simp; omega)]
theorem held_BoolS_eq (n : Nat) (k : Int) (hk : 0 ≤ k) (hl : n ≤ 1099511627776) (hb : k + ((1 * n : Nat) : Int) ≤ 1152921504606846976) :
    laws_heldBoolS (marks mBool 1 k n) k = some (k + ((1 * n : Nat) : Int)) := by
  unfold laws_heldBoolS
  have key := held_loop (step := laws_heldBoolS_L1 (marks mBool 1 k n)) (fun i k => (⟨k, i⟩ : laws_heldBoolS_G1)) 1 mBool n 1152921504606846976 (fun k => (⟨k⟩ : laws_heldBoolS_P1_1)) k (fun i k' hi hn h0 h1 => ?_) (fun k' => ?_) hk hb
  · rw [key]; rfl
  · unfold laws_heldBoolS_L1
    rw [if_pos (by simp [marks_length]; omega)]
    simp (disch := simp only [marks_length]; omega) only [Option.bind_some, guard_pos, Int.toNat_natCast]
    rw [if_neg (by simp [hn, mBool]), wI_id (by omega), wI_id (by omega)]
    rfl
  · unfold laws_heldBoolS_L1
    rw [if_neg (by simp [marks_length])]

theorem play_holds (w : Int) (l : List LineStepT) (hl : ok_LLineStep l) : laws_FnExactPlayQueue w l = some true := by
  unfold laws_FnExactPlayQueue
  rw [laws_szLineStepS_eq _ _ hl (by omega) (by omega)]
  simp only [Option.bind_some]
  by_cases h : (siz_LLineStep l : Int) ≤ 1048576
  rotate_left
  · rw [if_pos (decide_eq_true (szr_no h))]
  rw [if_neg (by simpa using szr_ok h), laws_toLineStepS_eq _ (by omega)]
  have hk := lk_of_LLineStep hl
  have hz : l.length ≤ 1048576 := by unfold siz_LLineStep at h; omega
  obtain ⟨r1, r2, r3, r4⟩ := playQ_len w l
  simp only [Option.bind_some]
  rw [spec_PlayQueue_eq]
  simp only [Option.bind_some]
  rw [impl_PlayQueue_eq]
  simp only [Option.bind_some]
  have hkr : lk_Queue (playQ w l).1 := lkQ (by omega) (by omega) (by omega)
  have hkb : lk_LB (playQ w l).2.1 := ⟨by omega, fun _ _ => trivial⟩
  rw [laws_eqQueue_eq _ _ hkr, laws_eqBoolS_eq _ _ hkb, laws_eqLineStepS_eq _ _ hk]
  simp only [Option.bind_some, decide_true, Bool.not_true, beq_self_eq_true, Bool.false_eq_true, if_false]
  rw [mark_LineStepS_eq l 1 (by omega) (by omega) (by omega), mark_Queue_eq (playQ w l).1 1 (by omega) (by omega) (by omega) (by omega) (by omega)]
  simp only [Option.bind_some]
  rw [guard_pos (marks_length ..), if_neg (by simp; omega)]
  simp only [Option.bind_some, Bool.false_eq_true, if_false]
  rw [guard_pos (marks_length ..), guard_pos (marks_length ..), guard_pos (marks_length ..), mark_BoolS_eq _ _ (by omega) (by omega) (by omega)]
  simp only [Option.bind_some]
  rw [guard_pos (marks_length ..), held_Queue_eq _ _ _ _ _ 1 (by omega) (by omega) (by omega) (by omega) (by omega)]
  simp only [Option.bind_some]
  rw [if_neg (by simp; omega), held_BoolS_eq _ _ (by omega) (by omega) (by omega)]
  simp only [Option.bind_some]
  rw [if_neg (by simp; omega), if_neg (by simp), if_neg (by simp; omega), if_neg (by simp; omega), if_neg (by simp)]
end Go.TL

import Derived.Test.YtjhcfmcdllfmpaaDoorPpDom2
set_option linter.unusedSimpArgs false
set_option linter.unusedVariables false
set_option linter.unusedVariables false
set_option linter.unusedSimpArgs false
namespace Go.TL

def nextN (v r : Int) : Int := if v - v.tmod 10 + r ≤ v then v - v.tmod 10 + r + 10 else v - v.tmod 10 + r
def nextP (v r : Int) : Int × Bool := if (0 ≤ v ∧ v ≤ 1000000) ∧ 0 ≤ r ∧ r ≤ 9 then (if 0 ≤ nextN v r ∧ nextN v r ≤ 1000000 then (nextN v r, true) else (0, false)) else (0, false)
theorem tmod10 {v : Int} (h : 0 ≤ v) : 0 ≤ v.tmod 10 ∧ v.tmod 10 ≤ 9 ∧ v.tmod 10 ≤ v := by
  rw [Int.tmod_eq_emod_of_nonneg h]; omega
theorem spec_NextVersion_eq (v r : Int) : spec_NextVersion v r = some (nextP v r) := by
  unfold spec_NextVersion nextP spec_l13Version
  simp only [spec_l1In_eq, Option.bind_some]
  by_cases h1 : 0 ≤ v ∧ v ≤ 1000000
  rotate_left
  · rw [decide_eq_false h1, if_pos (by simp), if_neg (fun h => h1 h.1)]; rfl
  rw [decide_eq_true h1, if_neg (by simp)]
  simp only [Option.bind_some]
  by_cases h2 : 0 ≤ r ∧ r ≤ 9
  rotate_left
  · rw [decide_eq_false h2, if_pos (by simp), if_neg (fun h => h2 h.2)]
  rw [decide_eq_true h2, if_neg (by simp), if_pos ⟨h1, h2⟩]
  obtain ⟨m1, m2, m3⟩ := tmod10 h1.1
  have e : spec_l13Next v r = some (nextN v r) := by
    unfold spec_l13Next nextN
    rw [wI_id (n := v - v.tmod 10) (by omega), wI_id (n := v - v.tmod 10 + r) (by omega), wI_id (by omega)]
    by_cases h : v - v.tmod 10 + r ≤ v
    · rw [if_pos (decide_eq_true h), if_pos h]
    · rw [if_neg (by simpa using h), if_neg h]
  rw [e]
  simp only [Option.bind_some]
  by_cases h3 : 0 ≤ nextN v r ∧ nextN v r ≤ 1000000
  · rw [decide_eq_true h3, if_neg (by simp), if_pos h3]
  · rw [decide_eq_false h3, if_pos (by simp), if_neg h3]
theorem impl_NextVersion_eq (v r : Int) : impl_NextVersion v r = some (nextP v r) := by
  unfold impl_NextVersion impl_isVersion impl_isRegion
  simp only [impl_in_eq, Option.bind_some]
  by_cases h1 : 0 ≤ v ∧ v ≤ 1000000
  rotate_left
  · have hP : nextP v r = (0, false) := by unfold nextP; rw [if_neg (fun h => h1 h.1)]
    rw [hP, decide_eq_false h1, if_pos (by simp)]; rfl
  rw [decide_eq_true h1, if_neg (by simp)]
  simp only [Option.bind_some]
  by_cases h2 : 0 ≤ r ∧ r ≤ 9
  rotate_left
  · have hP : nextP v r = (0, false) := by unfold nextP; rw [if_neg (fun h => h2 h.2)]
    rw [hP, decide_eq_false h2, if_pos (by simp)]
  have hP : nextP v r = if 0 ≤ nextN v r ∧ nextN v r ≤ 1000000 then (nextN v r, true) else (0, false) := by unfold nextP; rw [if_pos ⟨h1, h2⟩]
  rw [hP, decide_eq_true h2, if_neg (by simp)]
  obtain ⟨m1, m2, m3⟩ := tmod10 h1.1
  rw [wI_id (n := v - v.tmod 10) (by omega), wI_id (n := v - v.tmod 10 + r) (by omega), wI_id (n := v - v.tmod 10 + r + 10) (by omega)]
  have e : (if decide (v - v.tmod 10 + r ≤ v) = true then some (⟨v - v.tmod 10 + r + 10⟩ : impl_NextVersion_J2023) else some ⟨v - v.tmod 10 + r⟩) = some ⟨nextN v r⟩ := by
    unfold nextN
    by_cases h : v - v.tmod 10 + r ≤ v
    · rw [if_pos (decide_eq_true h), if_pos h]
    · rw [if_neg (by simpa using h), if_neg h]
  rw [e]
  simp only [Option.bind_some]
  by_cases h3 : 0 ≤ nextN v r ∧ nextN v r ≤ 1000000
  · rw [decide_eq_true h3, if_neg (by simp), if_pos h3]
  · rw [decide_eq_false h3, if_pos (by simp), if_neg h3]

def failP (l : List DomainT) (s : ByteArray) (r : Int) : List DomainT × Bool := if goodD l = true then (match atP l s with
  | some i => if (nextP (nth l i).Version r).2 = true then (l.set i ⟨(nth l i).Name, (nextP (nth l i).Version r).1, (nth l i).Note⟩, true) else ([], false)
  | none => ([], false)) else ([], false)
theorem failP_len (l : List DomainT) (s : ByteArray) (r : Int) : (failP l s r).1.length ≤ 12 := by
  unfold failP
  split
  · rename_i h
    have := goodD_len h
    split
    · split
      · simpa using this
      · simp
    · simp
  · simp
theorem spec_FailOver_eq (l : List DomainT) (s : ByteArray) (r : Int) (hl : ok_LDomain l) : spec_FailOver l s r = some (failP l s r) := by
  have h1 := hl.1
  unfold spec_FailOver failP
  rw [spec_GoodDomains_eq _ hl]
  simp only [Option.bind_some]
  by_cases hg : goodD l = true
  rotate_left
  · rw [if_pos (by simpa using hg), if_neg hg]
  have h12 := goodD_len hg
  rw [if_neg (by simp [hg]), if_pos hg, guard_pos (by omega)]
  have key := find_loop (step := spec_FailOver_L1 l s r) (fun i => (⟨i⟩ : spec_FailOver_G1)) l.length (fun i => decide ((nth l i).Name = s))
    (fun i => (.inl (if (nextP (nth l i).Version r).2 = true then ⟨true, l.set i ⟨(nth l i).Name, (nextP (nth l i).Version r).1, (nth l i).Note⟩⟩ else ⟨false, []⟩) : spec_FailOver_P1_0 ⊕ Unit)) (.inr ()) (fun i hi hv => ?_) ?_
  · rw [key]
    unfold atP
    cases findN (fun i => decide ((nth l i).Name = s)) l.length with
    | none => rfl
    | some i =>
      simp only [Option.bind_some]
      split <;> rfl
  · unfold spec_FailOver_L1
    simp only [List.nil_append]
    simp (disch := omega) only [decide_eq_true_eq, if_pos, guard_pos, Int.toNat_natCast, wI_id, sEq]
    by_cases h : (nth l i).Name = s
    · rw [if_pos h, if_pos h, spec_NextVersion_eq]
      simp only [Option.bind_some]
      cases hx : (nextP (nth l i).Version r).2
      · simp
      · simp
    · rw [if_neg h, if_neg h]; rfl
  · unfold spec_FailOver_L1
    rw [if_neg (by simp)]
theorem impl_FailOver_eq (l : List DomainT) (s : ByteArray) (r : Int) (hl : ok_LDomain l) : impl_FailOver l s r = some (failP l s r) := by
  unfold impl_FailOver failP
  rw [domainAt_eq _ _ hl.1, impl_GoodDomains_eq _ hl]
  simp only [Option.bind_some]
  by_cases hg : goodD l = true
  rotate_left
  · simp [hg]
  have h12 := goodD_len hg
  unfold atI
  cases ha : atP l s with
  | none => simp [hg]
  | some i =>
    obtain ⟨hi, _⟩ := atP_lt ha
    rw [if_pos hg]
    simp only [hg, Bool.not_true, Bool.false_eq_true, if_false, Option.bind_some]
    rw [if_neg (by simp), guard_pos (by omega), Int.toNat_natCast, impl_NextVersion_eq]
    simp only [Option.bind_some]
    cases hx : (nextP (nth l i).Version r).2
    · simp
    · simp only [Bool.not_true, Bool.false_eq_true, if_false, if_true]
      unfold slices_Clone_impl_Domain
      rw [guard_pos (by omega)]
      simp only [Option.bind_some]
      rw [guard_pos (by omega)]

noncomputable def mDomain (k : Int) : DomainT := ⟨mtext k, k + 1, mtext (k + 2)⟩
theorem mark_DomainS_eq (l : List DomainT) (k : Int) (hk : 0 ≤ k) (hl : l.length ≤ 1099511627776) (hb : k + ((3 * l.length : Nat) : Int) ≤ 1152921504606846976) :
    laws_markDomainS_w l k = some (k + ((3 * l.length : Nat) : Int), marks mDomain 3 k l.length) := by
  unfold laws_markDomainS_w
  have key := mark_loop (step := laws_markDomainS_w_L1) (fun i k l => (⟨k, i, l⟩ : laws_markDomainS_w_G1)) 3 mDomain l.length 1152921504606846976 (fun k l => (⟨k, l⟩ : laws_markDomainS_w_P1_0)) (fun i k l' hi hl' h0 h1 => ?_) (fun k l' hl' => ?_) k l rfl hk hb
  · rw [key]; rfl
  · unfold laws_markDomainS_w_L1
    have e1 : wI (k + 1) = k + 1 := wI_id (by omega)
    have e2 : wI (k + 1 + 1) = k + 2 := by rw [wI_id (by omega)]; omega
    have e3 : wI (k + 2 + 1) = k + 3 := by rw [wI_id (by omega)]; omega
    have e4 : wI ((i : Int) + 1) = ((i + 1 : Nat) : Int) := by rw [wI_id (by omega)]; omega
    simp only [e1, e2, e3, e4]
    rw [if_pos (by simp; omega), markText_eq k (by omega) (by omega), markText_eq (k + 2) (by omega) (by omega)]
    simp (disch := omega) only [Option.bind_some, guard_pos, Int.toNat_natCast, nth_set_same, List.set_set, List.length_set]
    rfl
  · unfold laws_markDomainS_w_L1
    rw [if_neg (by simp; omega)]
theorem held_DomainS_eq (n : Nat) (k : Int) (hk : 0 ≤ k) (hl : n ≤ 1099511627776) (hb : k + ((3 * n : Nat) : Int) ≤ 1152921504606846976) :
    laws_heldDomainS (marks mDomain 3 k n) k = some (k + ((3 * n : Nat) : Int)) := by
  unfold laws_heldDomainS
  have key := held_loop (step := laws_heldDomainS_L1 (marks mDomain 3 k n)) (fun i k => (⟨k, i⟩ : laws_heldDomainS_G1)) 3 mDomain n 1152921504606846976 (fun k => (⟨k⟩ : laws_heldDomainS_P1_1)) k (fun i k' hi hn h0 h1 => ?_) (fun k' => ?_) hk hb
  · rw [key]; rfl
  · unfold laws_heldDomainS_L1
    have e1 : wI (k' + 1) = k' + 1 := wI_id (by omega)
    have e2 : wI (k' + 1 + 1) = k' + 2 := by rw [wI_id (by omega)]; omega
    have e3 : wI (k' + 2 + 1) = k' + 3 := by rw [wI_id (by omega)]; omega
    have e4 : wI ((i : Int) + 1) = ((i + 1 : Nat) : Int) := by rw [wI_id (by omega)]; omega
    simp only [e1, e2, e3, e4]
    rw [if_pos (by simp [marks_length]; omega), markText_eq k' (by omega) (by omega), markText_eq (k' + 2) (by omega) (by omega)]
    simp (disch := simp only [marks_length]; omega) only [Option.bind_some, guard_pos, Int.toNat_natCast]
    rw [if_neg (by simp [hn, mDomain]), if_neg (by simp [hn, mDomain]), if_neg (by simp [hn, mDomain])]
    rfl
  · unfold laws_heldDomainS_L1
    rw [if_neg (by simp [marks_length])]

theorem fail_holds (l : List DomainT) (s : ByteArray) (r : Int) (hl : ok_LDomain l) : laws_FnExactFailOver l s r = some true := by
  unfold laws_FnExactFailOver
  by_cases h0 : (s.size : Int) > 1048576
  · rw [if_pos (decide_eq_true h0)]
  rw [if_neg (by simpa using h0), laws_szDomainS_eq _ _ hl (by omega) (by omega)]
  simp only [Option.bind_some]
  by_cases h : (siz_LDomain l : Int) ≤ 1048576
  rotate_left
  · rw [if_pos (decide_eq_true (szr_no h))]
  rw [if_neg (by simpa using szr_ok h), laws_toDomainS_eq _ (by omega)]
  have hz : l.length ≤ 1048576 := by unfold siz_LDomain at h; omega
  have hr := failP_len l s r
  simp only [Option.bind_some]
  rw [spec_FailOver_eq _ _ _ hl, impl_FailOver_eq _ _ _ hl]
  simp only [Option.bind_some]
  have hk : lk_LDomain (failP l s r).1 := ⟨by omega, fun y _ => ⟨trivial, trivial, trivial⟩⟩
  rw [laws_eqDomainS_eq _ _ hk, laws_eqDomainS_eq _ _ (lk_of_LDomain hl)]
  simp only [Option.bind_some, decide_true, Bool.not_true, beq_self_eq_true, Bool.false_eq_true, if_false]
  rw [mark_DomainS_eq l 1 (by omega) (by omega) (by omega), mark_DomainS_eq (failP l s r).1 1 (by omega) (by omega) (by omega)]
  simp only [Option.bind_some]
  rw [guard_pos (marks_length ..), if_neg (by simp; omega)]
  simp only [Option.bind_some, Bool.false_eq_true, if_false]
  rw [guard_pos (marks_length ..), held_DomainS_eq _ 1 (by omega) (by omega) (by omega)]
  simp only [Option.bind_some]
  rw [if_neg (by simp; omega), if_neg (by simp), if_neg (by simp; omega), if_neg (by simp)]
end Go.TL

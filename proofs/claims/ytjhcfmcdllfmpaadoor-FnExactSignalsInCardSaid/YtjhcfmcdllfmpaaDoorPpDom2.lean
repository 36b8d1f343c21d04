import Derived.Test.YtjhcfmcdllfmpaaDoorPpDom
set_option linter.unusedSimpArgs false
set_option linter.unusedVariables false
set_option linter.unusedVariables false
set_option linter.unusedSimpArgs false
namespace Go.TL

def atP (l : List DomainT) (s : ByteArray) : Option Nat := findN (fun i => decide ((nth l i).Name = s)) l.length
theorem atP_lt {l : List DomainT} {s : ByteArray} {i : Nat} (h : atP l s = some i) : i < l.length ∧ (nth l i).Name = s := by
  unfold atP findN at h
  rw [List.find?_range_eq_some] at h
  exact ⟨by simpa using h.2.1, by simpa using h.1⟩
def atI (l : List DomainT) (s : ByteArray) : Int := match atP l s with
  | some i => i
  | none => -1
theorem domainAt_eq (l : List DomainT) (s : ByteArray) (hl : l.length ≤ 9223372036854775807) : impl_domainAt l s = some (atI l s) := by
  unfold impl_domainAt slices_IndexFunc_impl_Domain_impl_domainAt_c1r atI
  have key := find_loop (step := slices_IndexFunc_impl_Domain_impl_domainAt_c1r_L1 l s) (fun i => (⟨i⟩ : slices_IndexFunc_impl_Domain_impl_domainAt_c1r_G1)) l.length (fun i => decide ((nth l i).Name = s))
    (fun i => (.inl ⟨i⟩ : slices_IndexFunc_impl_Domain_impl_domainAt_c1r_P1_0 ⊕ Unit)) (.inr ()) (fun i hi hv => ?_) ?_
  · rw [key]
    unfold atP
    cases findN (fun i => decide ((nth l i).Name = s)) l.length <;> rfl
  · unfold slices_IndexFunc_impl_Domain_impl_domainAt_c1r_L1 impl_domainAt_c1_r
    simp (disch := omega) only [decide_eq_true_eq, if_pos, guard_pos, Int.toNat_natCast, wI_id, Option.bind_some, sEq]
    by_cases h : (nth l i).Name = s
    · rw [if_pos h, if_pos h]
    · rw [if_neg h, if_neg h]; rfl
  · unfold slices_IndexFunc_impl_Domain_impl_domainAt_c1r_L1
    rw [if_neg (by simp)]

def leaderP (l : List DomainT) (s : ByteArray) : Int × Bool := if goodD l = true then (match atP l s with
  | some i => ((nth l i).Version.tmod 10, true)
  | none => (0, false)) else (0, false)
theorem goodD_ver {l : List DomainT} (h : goodD l = true) {i : Nat} (hi : i < l.length) : 0 ≤ (nth l i).Version ∧ (nth l i).Version ≤ 1000000 := by
  unfold goodD at h
  simp only [Bool.and_eq_true, allN_iff, decide_eq_true_eq] at h
  have := h.2 i hi
  unfold domP verP at this
  simp only [Bool.and_eq_true, decide_eq_true_eq] at this
  exact this.1.1.2
theorem goodD_len {l : List DomainT} (h : goodD l = true) : l.length ≤ 12 := by
  unfold goodD at h
  simp only [Bool.and_eq_true, decide_eq_true_eq] at h
  exact h.1
theorem spec_LeaderOf_eq (l : List DomainT) (s : ByteArray) (hl : ok_LDomain l) : spec_LeaderOf l s = some (leaderP l s) := by
  have h1 := hl.1
  unfold spec_LeaderOf leaderP
  rw [spec_GoodDomains_eq _ hl]
  simp only [Option.bind_some]
  by_cases hg : goodD l = true
  rotate_left
  · rw [if_pos (by simpa using hg), if_neg hg]
  rw [if_neg (by simp [hg]), if_pos hg]
  have key := find_loop (step := spec_LeaderOf_L1 l s) (fun i => (⟨i⟩ : spec_LeaderOf_G1)) l.length (fun i => decide ((nth l i).Name = s))
    (fun i => (.inl ⟨(nth l i).Version.tmod 10⟩ : spec_LeaderOf_P1_0 ⊕ Unit)) (.inr ()) (fun i hi hv => ?_) ?_
  · rw [key]
    unfold atP
    cases findN (fun i => decide ((nth l i).Name = s)) l.length <;> rfl
  · unfold spec_LeaderOf_L1
    simp (disch := omega) only [decide_eq_true_eq, if_pos, guard_pos, Int.toNat_natCast, wI_id, sEq]
    by_cases h : (nth l i).Name = s
    · rw [if_pos h, if_pos h]
    · rw [if_neg h, if_neg h]; rfl
  · unfold spec_LeaderOf_L1
    rw [if_neg (by simp)]
theorem impl_RegionOf_eq (n : Int) : impl_RegionOf n = some (if 0 ≤ n ∧ n ≤ 1000000 then (n.tmod 10, true) else (0, false)) := by
  unfold impl_RegionOf impl_isVersion
  rw [impl_in_eq]
  simp only [Option.bind_some]
  by_cases h : 0 ≤ n ∧ n ≤ 1000000
  · rw [decide_eq_true h, if_neg (by simp), if_pos h]
  · rw [decide_eq_false h, if_pos (by simp), if_neg h]
theorem impl_LeaderOf_eq (l : List DomainT) (s : ByteArray) (hl : ok_LDomain l) : impl_LeaderOf l s = some (leaderP l s) := by
  unfold impl_LeaderOf leaderP
  rw [domainAt_eq _ _ hl.1, impl_GoodDomains_eq _ hl]
  simp only [Option.bind_some]
  by_cases hg : goodD l = true
  rotate_left
  · simp [hg]
  unfold atI
  cases ha : atP l s with
  | none => simp [hg]
  | some i =>
    obtain ⟨hi, _⟩ := atP_lt ha
    have hv := goodD_ver hg hi
    rw [if_pos hg]
    simp only [hg, Bool.not_true, Bool.false_eq_true, if_false, Option.bind_some]
    rw [if_neg (by simp), guard_pos (by omega), Int.toNat_natCast, impl_RegionOf_eq, if_pos hv]
    rfl
theorem leader_holds (l : List DomainT) (s : ByteArray) (hl : ok_LDomain l) : laws_FnExactLeaderOf l s = some true := by
  unfold laws_FnExactLeaderOf
  by_cases h0 : (s.size : Int) > 1048576
  · rw [if_pos (decide_eq_true h0)]
  rw [if_neg (by simpa using h0), laws_szDomainS_eq _ _ hl (by omega) (by omega)]
  simp only [Option.bind_some]
  by_cases h : (siz_LDomain l : Int) ≤ 1048576
  rotate_left
  · rw [if_pos (decide_eq_true (szr_no h))]
  rw [if_neg (by simpa using szr_ok h), laws_toDomainS_eq _ (by omega)]
  simp only [Option.bind_some]
  rw [spec_LeaderOf_eq _ _ hl, impl_LeaderOf_eq _ _ hl, laws_eqDomainS_eq _ _ (lk_of_LDomain hl)]
  simp
end Go.TL

import Derived.Test.YtmooampfjclmiaaGreatDoorPpR2D
set_option linter.unusedSimpArgs false
set_option linter.unusedVariables false
set_option linter.unusedVariables false
set_option linter.unusedSimpArgs false
namespace Go.TL

def nameB (b : UInt8) : Bool := decide (97 ≤ b.toNat ∧ b.toNat ≤ 122) || decide (48 ≤ b.toNat ∧ b.toNat ≤ 57)
def nameP (s : ByteArray) : Bool := decide (s.size ≤ 12) && s.data.toList.all nameB
def nameSet : ByteArray := ⟨#[97, 98, 99, 100, 101, 102, 103, 104, 105, 106, 107, 108, 109, 110, 111, 112, 113, 114, 115, 116, 117, 118, 119, 120, 121, 122, 48, 49, 50, 51, 52, 53, 54, 55, 56, 57]⟩
set_option maxRecDepth 100000 in
theorem set_nameB (b : UInt8) : nameSet.data.toList.contains b = nameB b := by
  have h : ∀ n : Fin 256, nameSet.data.toList.contains (UInt8.ofNat n.val) = nameB (UInt8.ofNat n.val) := by decide
  have := h ⟨b.toNat, b.toNat_lt⟩
  simpa using this
theorem dropWhile_nil {p : UInt8 → Bool} {l : List UInt8} : l.dropWhile p = [] ↔ ∀ x ∈ l, p x = true := by
  induction l with
  | nil => simp
  | cons x r ih =>
    by_cases h : p x = true
    · rw [List.dropWhile_cons_of_pos h, ih]; simp [h]
    · rw [List.dropWhile_cons_of_neg h]; simp [h]
theorem dropWhile_head {p : UInt8 → Bool} : ∀ {l : List UInt8} {x : UInt8} {r : List UInt8}, l.dropWhile p = x :: r → ¬ p x = true
  | [], x, r, h => by simp at h
  | y :: q, x, r, h => by
    by_cases hy : p y = true
    · rw [List.dropWhile_cons_of_pos hy] at h; exact dropWhile_head h
    · rw [List.dropWhile_cons_of_neg hy] at h
      cases h; exact hy
theorem trim_nil (l cs : List UInt8) : Go.Lib.trimS l cs = [] ↔ ∀ x ∈ l, cs.contains x = true := by
  unfold Go.Lib.trimS Go.Lib.trimLeftS Go.Lib.trimRightS
  rw [dropWhile_nil]
  constructor
  · intro h
    have hn : l.reverse.dropWhile (cs.contains ·) = [] := by
      cases hd : l.reverse.dropWhile (cs.contains ·) with
      | nil => rfl
      | cons x r => exact absurd (h x (by rw [hd]; simp)) (dropWhile_head hd)
    intro x hx
    exact dropWhile_nil.1 hn x (by simpa using hx)
  · intro h x hx
    have hn : l.reverse.dropWhile (cs.contains ·) = [] := dropWhile_nil.2 fun y hy => h y (by simpa using hy)
    rw [hn] at hx; simp at hx

theorem impl_goodName_eq (s : ByteArray) : impl_goodName s = some (nameP s) := by
  unfold impl_goodName nameP
  by_cases h : s.size ≤ 12
  rotate_left
  · rw [if_neg (by simp; omega)]; simp [h]
  rw [if_pos (by simp; omega)]
  have ht : strings_Trim s nameSet = some (trimB s nameSet) := by
    unfold strings_Trim
    exact guard_pos ⟨by omega, by decide, by decide⟩ _
  have ht' : strings_Trim s (⟨#[97, 98, 99, 100, 101, 102, 103, 104, 105, 106, 107, 108, 109, 110, 111, 112, 113, 114, 115, 116, 117, 118, 119, 120, 121, 122, 48, 49, 50, 51, 52, 53, 54, 55, 56, 57]⟩ : ByteArray) = some (trimB s nameSet) := ht
  rw [ht']
  simp only [Option.bind_some]
  rw [sEq]
  congr 1
  rw [decide_eq_true h, Bool.true_and, Bool.eq_iff_iff, decide_eq_true_eq, List.all_eq_true]
  have e : trimB s nameSet = ByteArray.empty ↔ Go.Lib.trimS s.data.toList nameSet.data.toList = [] := by
    unfold trimB
    constructor
    · intro h
      have := congrArg (fun b : ByteArray => b.data.toList) h
      simpa using this
    · intro h; rw [h]; rfl
  rw [e, trim_nil]
  refine forall_congr' fun x => forall_congr' fun _ => ?_
  rw [set_nameB]

theorem bt_get (s : ByteArray) (i : Nat) (h : i < s.size) : bt s (i : Int) = (((s.data.toList[i]'(by rw [Array.length_toList]; exact h)).toNat : Nat) : Int) := by
  unfold bt
  rw [Int.toNat_natCast]
  have : s[i]? = some (s[i]'h) := by rw [getElem?_pos]
  rw [this]
  rfl
theorem nameB_bt {s : ByteArray} {i : Nat} (h : i < s.size) : nameB (s.data.toList[i]'(by rw [Array.length_toList]; exact h)) = (decide (97 ≤ bt s i ∧ bt s i ≤ 122) || decide (48 ≤ bt s i ∧ bt s i ≤ 57)) := by
  rw [bt_get s i h]
  unfold nameB
  congr 1 <;> (congr 1; apply propext; omega)
theorem spec_l1Name_eq (s : ByteArray) (hs : s.size ≤ 9223372036854775807) : spec_l1Name s = some (nameP s) := by
  unfold spec_l1Name
  have key := all_loop (step := spec_l1Name_L1 s) (fun i => (⟨i⟩ : spec_l1Name_G1)) s.size (fun i => decide (97 ≤ bt s i ∧ bt s i ≤ 122) || decide (48 ≤ bt s i ∧ bt s i ≤ 57))
    (.inr () : Unit ⊕ Unit) (.inl ()) (fun i hi hv => ?_) (fun _ => ?_)
  · rw [key]
    have e : allN (fun i => decide (97 ≤ bt s (i : Nat) ∧ bt s (i : Nat) ≤ 122) || decide (48 ≤ bt s (i : Nat) ∧ bt s (i : Nat) ≤ 57)) s.size = s.data.toList.all nameB := by
      rw [Bool.eq_iff_iff, allN_iff, List.all_eq_true]
      constructor
      · intro h x hx
        obtain ⟨i, hi, rfl⟩ := List.getElem_of_mem hx
        have hi' : i < s.size := by rw [Array.length_toList] at hi; exact hi
        rw [nameB_bt hi']; exact h i hi'
      · intro h i hi
        rw [← nameB_bt hi]; exact h _ (List.getElem_mem _)
    rw [e]
    unfold nameP
    have hsz : decide ((s.size : Int) ≤ 12) = decide (s.size ≤ 12) := by congr 1; apply propext; omega
    cases s.data.toList.all nameB
    · simp
    · simp [hsz]
  · unfold spec_l1Name_L1
    simp (disch := omega) only [decide_eq_true_eq, if_pos, guard_pos, wI_id]
    by_cases h1 : bt s i ≥ 97
    · rw [if_pos h1]
      by_cases h2 : bt s i ≤ 122
      · rw [if_pos h2]
        simp only [Option.bind_some]
        have hr : (decide (97 ≤ bt s i ∧ bt s i ≤ 122) || decide (48 ≤ bt s i ∧ bt s i ≤ 57)) = true := by simp; omega
        rw [hr]; rfl
      · have h3 : bt s i ≥ 48 := by omega
        have h4 : ¬ bt s i ≤ 57 := by omega
        have hr : (decide (97 ≤ bt s i ∧ bt s i ≤ 122) || decide (48 ≤ bt s i ∧ bt s i ≤ 57)) = false := by simp; omega
        rw [if_neg h2, hr, decide_eq_false h4]; rfl
    · rw [if_neg h1]
      by_cases h3 : bt s i ≥ 48
      · rw [if_pos h3]
        by_cases h4 : bt s i ≤ 57
        · have hr : (decide (97 ≤ bt s i ∧ bt s i ≤ 122) || decide (48 ≤ bt s i ∧ bt s i ≤ 57)) = true := by simp; omega
          rw [hr, decide_eq_true h4]; rfl
        · have hr : (decide (97 ≤ bt s i ∧ bt s i ≤ 122) || decide (48 ≤ bt s i ∧ bt s i ≤ 57)) = false := by simp; omega
          rw [hr, decide_eq_false h4]; rfl
      · have hr : (decide (97 ≤ bt s i ∧ bt s i ≤ 122) || decide (48 ≤ bt s i ∧ bt s i ≤ 57)) = false := by simp; omega
        rw [if_neg h3, hr]; rfl
  · unfold spec_l1Name_L1
    rw [if_neg (by simp)]

def verP (n : Int) : Bool := decide (0 ≤ n ∧ n ≤ 1000000)
def domP (l : List DomainT) (i : Nat) : Bool :=
  nameP (nth l i).Name && !decide ((nth l i).Name = ByteArray.empty) && verP (nth l i).Version && decide ((nth l i).Note.size ≤ 20) && (decide (i = 0) || sLt (nth l (i - 1)).Name (nth l i).Name)
def goodD (l : List DomainT) : Bool := decide (l.length ≤ 12) && allN (domP l) l.length

theorem spec_GoodDomains_eq (l : List DomainT) (hl : ok_LDomain l) : spec_GoodDomains l = some (goodD l) := by
  have h1 := hl.1
  unfold spec_GoodDomains goodD
  have key := all_loop (step := spec_GoodDomains_L1 l) (fun i => (⟨i⟩ : spec_GoodDomains_G1)) l.length (domP l) (.inr () : Unit ⊕ Unit) (.inl ()) (fun i hi hv => ?_) (fun _ => ?_)
  · rw [key]
    have hsz : decide (((l.length : Nat) : Int) ≤ 12) = decide (l.length ≤ 12) := by congr 1; apply propext; omega
    cases allN (domP l) l.length
    · simp
    · simp [hsz]
  · have hm := hl.2 _ (nth_mem hi)
    unfold spec_GoodDomains_L1 domP
    simp (disch := omega) only [decide_eq_true_eq, if_pos, guard_pos, wI_id, Int.toNat_natCast]
    rw [spec_l1Name_eq _ hm.1]
    simp only [Option.bind_some, sEq]
    cases c1 : nameP (nth l i).Name
    · rfl
    simp only [Bool.not_true, Bool.false_eq_true, if_false]
    by_cases c2 : (nth l i).Name = ByteArray.empty
    · simp [c2]
    rw [decide_eq_false c2]
    simp only [Bool.false_eq_true, if_false, spec_l13Version, spec_l1In_eq, Option.bind_some]
    unfold verP
    by_cases c3 : 0 ≤ (nth l i).Version ∧ (nth l i).Version ≤ 1000000
    rotate_left
    · rw [decide_eq_false c3]; rfl
    rw [decide_eq_true c3]
    simp only [Bool.not_true, Bool.false_eq_true, if_false]
    by_cases c4 : (nth l i).Note.size ≤ 20
    rotate_left
    · rw [if_pos (by omega), decide_eq_false c4]; rfl
    rw [if_neg (by omega), decide_eq_true c4]
    by_cases c5 : i = 0
    · subst c5
      rw [if_neg (by simp)]; rfl
    · rw [if_pos (by omega), decide_eq_false c5, show ((i : Int) - 1).toNat = i - 1 by omega]
      simp only [Option.bind_some]
      cases sLt (nth l (i - 1)).Name (nth l i).Name <;> rfl
  · unfold spec_GoodDomains_L1
    rw [if_neg (by simp)]

theorem impl_GoodDomains_eq (l : List DomainT) (hl : ok_LDomain l) : impl_GoodDomains l = some (goodD l) := by
  have h1 := hl.1
  unfold impl_GoodDomains goodD
  by_cases h12 : l.length ≤ 12
  rotate_left
  · rw [if_pos (by simp; omega), decide_eq_false h12]; rfl
  rw [if_neg (by simp; omega), decide_eq_true h12]
  have key := all_loop (step := impl_GoodDomains_L1 l) (fun i => (⟨i⟩ : impl_GoodDomains_G1)) l.length (domP l) (.inr () : Unit ⊕ Unit) (.inl ()) (fun i hi hv => ?_) (fun _ => ?_)
  · rw [key]
    cases allN (domP l) l.length <;> simp
  · have hm := hl.2 _ (nth_mem hi)
    unfold impl_GoodDomains_L1 domP
    simp (disch := omega) only [decide_eq_true_eq, if_pos, guard_pos, wI_id, Int.toNat_natCast]
    simp only [Option.bind_some, sEq, impl_goodName_eq]
    by_cases c2 : (nth l i).Name = ByteArray.empty
    · simp [c2]
    rw [decide_eq_false c2]
    simp only [Bool.false_eq_true, if_false]
    cases c1 : nameP (nth l i).Name
    · rfl
    simp only [Bool.not_true, Bool.false_eq_true, if_false, impl_isVersion, impl_in_eq, Option.bind_some]
    unfold verP
    by_cases c3 : 0 ≤ (nth l i).Version ∧ (nth l i).Version ≤ 1000000
    rotate_left
    · rw [decide_eq_false c3]; rfl
    rw [decide_eq_true c3]
    simp only [Bool.not_true, Bool.false_eq_true, if_false]
    by_cases c4 : (nth l i).Note.size ≤ 20
    rotate_left
    · rw [if_pos (by omega), decide_eq_false c4]; rfl
    rw [if_neg (by omega), decide_eq_true c4]
    by_cases c5 : i = 0
    · subst c5
      rw [if_neg (by simp)]; rfl
    · rw [if_pos (by omega), decide_eq_false c5, show ((i : Int) - 1).toNat = i - 1 by omega]
      simp only [Option.bind_some]
      cases sLt (nth l (i - 1)).Name (nth l i).Name <;> rfl
  · unfold impl_GoodDomains_L1
    rw [if_neg (by simp)]

theorem good_domains_holds (l : List DomainT) (hl : ok_LDomain l) : laws_FnExactGoodDomains l = some true := by
  unfold laws_FnExactGoodDomains
  rw [laws_szDomainS_eq _ _ hl (by omega) (by omega)]
  simp only [Option.bind_some]
  by_cases h : (siz_LDomain l : Int) ≤ 1048576
  rotate_left
  · rw [if_pos (decide_eq_true (szr_no h))]
  rw [if_neg (by simpa using szr_ok h), laws_toDomainS_eq _ (by omega)]
  simp only [Option.bind_some]
  rw [spec_GoodDomains_eq _ hl, impl_GoodDomains_eq _ hl, laws_eqDomainS_eq _ _ (lk_of_LDomain hl)]
  simp
end Go.TL
set_option linter.unusedVariables false
set_option linter.unusedSimpArgs false
namespace Go.TL

def atP (l : List DomainT) (s : ByteArray) : Option Nat := findN (fun i => decide ((nth l i).Name = s)) l.length
theorem atP_lt {l : List DomainT} {s : ByteArray} {i : Nat} (h : atP l s = some i) : i < l.length ∧ (nth l i).Name = s := by
  unfold atP findN at h
  rw [List.find?_range_eq_some] at h
  exact ⟨by simpa using h.2.1, by simpa using h.1⟩
def atI (l : List DomainT) (s : ByteArray) : Int := match atP l s with
  | some i => i
  | none => -1
theorem domainAt_eq (l : List DomainT) (s : ByteArray) (hl : l.length ≤ 9223372036854775807) : impl_domainAt l s = some (atI l s) := by
  unfold impl_domainAt slices_IndexFunc_impl_Domain_impl_domainAt_c1r atI
  have key := find_loop (step := slices_IndexFunc_impl_Domain_impl_domainAt_c1r_L1 l s) (fun i => (⟨i⟩ : slices_IndexFunc_impl_Domain_impl_domainAt_c1r_G1)) l.length (fun i => decide ((nth l i).Name = s))
    (fun i => (.inl ⟨i⟩ : slices_IndexFunc_impl_Domain_impl_domainAt_c1r_P1_0 ⊕ Unit)) (.inr ()) (fun i hi hv => ?_) ?_
  · rw [key]
    unfold atP
    cases findN (fun i => decide ((nth l i).Name = s)) l.length <;> rfl
  · unfold slices_IndexFunc_impl_Domain_impl_domainAt_c1r_L1 impl_domainAt_c1_r
    simp (disch := omega) only [decide_eq_true_eq, if_pos, guard_pos, Int.toNat_natCast, wI_id, Option.bind_some, sEq]
    by_cases h : (nth l i).Name = s
    · rw [if_pos h, if_pos h]
    · rw [if_neg h, if_neg h]; rfl
  · unfold slices_IndexFunc_impl_Domain_impl_domainAt_c1r_L1
    rw [if_neg (by simp)]

def leaderP (l : List DomainT) (s : ByteArray) : Int × Bool := if goodD l = true then (match atP l s with
  | some i => ((nth l i).Version.tmod 10, true)
  | none => (0, false)) else (0, false)
theorem goodD_ver {l : List DomainT} (h : goodD l = true) {i : Nat} (hi : i < l.length) : 0 ≤ (nth l i).Version ∧ (nth l i).Version ≤ 1000000 := by
  unfold goodD at h
  simp only [Bool.and_eq_true, allN_iff, decide_eq_true_eq] at h
  have := h.2 i hi
  unfold domP verP at this
  simp only [Bool.and_eq_true, decide_eq_true_eq] at this
  exact this.1.1.2
theorem goodD_len {l : List DomainT} (h : goodD l = true) : l.length ≤ 12 := by
  unfold goodD at h
  simp only [Bool.and_eq_true, decide_eq_true_eq] at h
  exact h.1
theorem spec_LeaderOf_eq (l : List DomainT) (s : ByteArray) (hl : ok_LDomain l) : spec_LeaderOf l s = some (leaderP l s) := by
  have h1 := hl.1
  unfold spec_LeaderOf leaderP
  rw [spec_GoodDomains_eq _ hl]
  simp only [Option.bind_some]
  by_cases hg : goodD l = true
  rotate_left
  · rw [if_pos (by simpa using hg), if_neg hg]
  rw [if_neg (by simp [hg]), if_pos hg]
  have key := find_loop (step := spec_LeaderOf_L1 l s) (fun i => (⟨i⟩ : spec_LeaderOf_G1)) l.length (fun i => decide ((nth l i).Name = s))
    (fun i => (.inl ⟨(nth l i).Version.tmod 10⟩ : spec_LeaderOf_P1_0 ⊕ Unit)) (.inr ()) (fun i hi hv => ?_) ?_
  · rw [key]
    unfold atP
    cases findN (fun i => decide ((nth l i).Name = s)) l.length <;> rfl
  · unfold spec_LeaderOf_L1
    simp (disch := omega) only [decide_eq_true_eq, if_pos, guard_pos, Int.toNat_natCast, wI_id, sEq]
    by_cases h : (nth l i).Name = s
    · rw [if_pos h, if_pos h]
    · rw [if_neg h, if_neg h]; rfl
  · unfold spec_LeaderOf_L1
    rw [if_neg (by simp)]
theorem impl_RegionOf_eq (n : Int) : impl_RegionOf n = some (if 0 ≤ n ∧ n ≤ 1000000 then (n.tmod 10, true) else (0, false)) := by
  unfold impl_RegionOf impl_isVersion
  rw [impl_in_eq]
  simp only [Option.bind_some]
  by_cases h : 0 ≤ n ∧ n ≤ 1000000
  · rw [decide_eq_true h, if_neg (by simp), if_pos h]
  · rw [decide_eq_false h, if_pos (by simp), if_neg h]
theorem impl_LeaderOf_eq (l : List DomainT) (s : ByteArray) (hl : ok_LDomain l) : impl_LeaderOf l s = some (leaderP l s) := by
  unfold impl_LeaderOf leaderP
  rw [domainAt_eq _ _ hl.1, impl_GoodDomains_eq _ hl]
  simp only [Option.bind_some]
  by_cases hg : goodD l = true
  rotate_left
  · simp [hg]
  unfold atI
  cases ha : atP l s with
  | none => simp [hg]
  | some i =>
    obtain ⟨hi, _⟩ := atP_lt ha
    have hv := goodD_ver hg hi
    rw [if_pos hg]
    simp only [hg, Bool.not_true, Bool.false_eq_true, if_false, Option.bind_some]
    rw [if_neg (by simp), guard_pos (by omega), Int.toNat_natCast, impl_RegionOf_eq, if_pos hv]
    rfl
theorem leader_holds (l : List DomainT) (s : ByteArray) (hl : ok_LDomain l) : laws_FnExactLeaderOf l s = some true := by
  unfold laws_FnExactLeaderOf
  by_cases h0 : (s.size : Int) > 1048576
  · rw [if_pos (decide_eq_true h0)]
  rw [if_neg (by simpa using h0), laws_szDomainS_eq _ _ hl (by omega) (by omega)]
  simp only [Option.bind_some]
  by_cases h : (siz_LDomain l : Int) ≤ 1048576
  rotate_left
  · rw [if_pos (decide_eq_true (szr_no h))]
  rw [if_neg (by simpa using szr_ok h), laws_toDomainS_eq _ (by omega)]
  simp only [Option.bind_some]
  rw [spec_LeaderOf_eq _ _ hl, impl_LeaderOf_eq _ _ hl, laws_eqDomainS_eq _ _ (lk_of_LDomain hl)]
  simp
end Go.TL
set_option linter.unusedVariables false
set_option linter.unusedSimpArgs false
namespace Go.TL

def nextN (v r : Int) : Int := if v - v.tmod 10 + r ≤ v then v - v.tmod 10 + r + 10 else v - v.tmod 10 + r
def nextP (v r : Int) : Int × Bool := if (0 ≤ v ∧ v ≤ 1000000) ∧ 0 ≤ r ∧ r ≤ 9 then (if 0 ≤ nextN v r ∧ nextN v r ≤ 1000000 then (nextN v r, true) else (0, false)) else (0, false)
theorem tmod10 {v : Int} (h : 0 ≤ v) : 0 ≤ v.tmod 10 ∧ v.tmod 10 ≤ 9 ∧ v.tmod 10 ≤ v := by
  rw [Int.tmod_eq_emod_of_nonneg h]; omega
theorem spec_NextVersion_eq (v r : Int) : spec_NextVersion v r = some (nextP v r) := by
  unfold spec_NextVersion nextP spec_l13Version
  simp only [spec_l1In_eq, Option.bind_some]
  by_cases h1 : 0 ≤ v ∧ v ≤ 1000000
  rotate_left
  · rw [decide_eq_false h1, if_pos (by simp), if_neg (fun h => h1 h.1)]; rfl
  rw [decide_eq_true h1, if_neg (by simp)]
  simp only [Option.bind_some]
  by_cases h2 : 0 ≤ r ∧ r ≤ 9
  rotate_left
  · rw [decide_eq_false h2, if_pos (by simp), if_neg (fun h => h2 h.2)]
  rw [decide_eq_true h2, if_neg (by simp), if_pos ⟨h1, h2⟩]
  obtain ⟨m1, m2, m3⟩ := tmod10 h1.1
  have e : spec_l13Next v r = some (nextN v r) := by
    unfold spec_l13Next nextN
    rw [wI_id (n := v - v.tmod 10) (by omega), wI_id (n := v - v.tmod 10 + r) (by omega), wI_id (by omega)]
    by_cases h : v - v.tmod 10 + r ≤ v
    · rw [if_pos (decide_eq_true h), if_pos h]
    · rw [if_neg (by simpa using h), if_neg h]
  rw [e]
  simp only [Option.bind_some]
  by_cases h3 : 0 ≤ nextN v r ∧ nextN v r ≤ 1000000
  · rw [decide_eq_true h3, if_neg (by simp), if_pos h3]
  · rw [decide_eq_false h3, if_pos (by simp), if_neg h3]
theorem impl_NextVersion_eq (v r : Int) : impl_NextVersion v r = some (nextP v r) := by
  unfold impl_NextVersion impl_isVersion impl_isRegion
  simp only [impl_in_eq, Option.bind_some]
  by_cases h1 : 0 ≤ v ∧ v ≤ 1000000
  rotate_left
  · have hP : nextP v r = (0, false) := by unfold nextP; rw [if_neg (fun h => h1 h.1)]
    rw [hP, decide_eq_false h1, if_pos (by simp)]; rfl
  rw [decide_eq_true h1, if_neg (by simp)]
  simp only [Option.bind_some]
  by_cases h2 : 0 ≤ r ∧ r ≤ 9
  rotate_left
  · have hP : nextP v r = (0, false) := by unfold nextP; rw [if_neg (fun h => h2 h.2)]
    rw [hP, decide_eq_false h2, if_pos (by simp)]
  have hP : nextP v r = if 0 ≤ nextN v r ∧ nextN v r ≤ 1000000 then (nextN v r, true) else (0, false) := by unfold nextP; rw [if_pos ⟨h1, h2⟩]
  rw [hP, decide_eq_true h2, if_neg (by simp)]
  obtain ⟨m1, m2, m3⟩ := tmod10 h1.1
  rw [wI_id (n := v - v.tmod 10) (by omega), wI_id (n := v - v.tmod 10 + r) (by omega), wI_id (n := v - v.tmod 10 + r + 10) (by omega)]
  have e : (if decide (v - v.tmod 10 + r ≤ v) = true then some (⟨v - v.tmod 10 + r + 10⟩ : impl_NextVersion_J2023) else some ⟨v - v.tmod 10 + r⟩) = some ⟨nextN v r⟩ := by
    unfold nextN
    by_cases h : v - v.tmod 10 + r ≤ v
    · rw [if_pos (decide_eq_true h), if_pos h]
    · rw [if_neg (by simpa using h), if_neg h]
  rw [e]
  simp only [Option.bind_some]
  by_cases h3 : 0 ≤ nextN v r ∧ nextN v r ≤ 1000000
  · rw [decide_eq_true h3, if_neg (by simp), if_pos h3]
  · rw [decide_eq_false h3, if_pos (by simp), if_neg h3]

def failP (l : List DomainT) (s : ByteArray) (r : Int) : List DomainT × Bool := if goodD l = true then (match atP l s with
  | some i => if (nextP (nth l i).Version r).2 = true then (l.set i ⟨(nth l i).Name, (nextP (nth l i).Version r).1, (nth l i).Note⟩, true) else ([], false)
  | none => ([], false)) else ([], false)
theorem failP_len (l : List DomainT) (s : ByteArray) (r : Int) : (failP l s r).1.length ≤ 12 := by
  unfold failP
  split
  · rename_i h
    have := goodD_len h
    split
    · split
      · simpa using this
      · simp
    · simp
  · simp
theorem spec_FailOver_eq (l : List DomainT) (s : ByteArray) (r : Int) (hl : ok_LDomain l) : spec_FailOver l s r = some (failP l s r) := by
  have h1 := hl.1
  unfold spec_FailOver failP
  rw [spec_GoodDomains_eq _ hl]
  simp only [Option.bind_some]
  by_cases hg : goodD l = true
  rotate_left
  · rw [if_pos (by simpa using hg), if_neg hg]
  have h12 := goodD_len hg
  rw [if_neg (by simp [hg]), if_pos hg, guard_pos (by omega)]
  have key := find_loop (step := spec_FailOver_L1 l s r) (fun i => (⟨i⟩ : spec_FailOver_G1)) l.length (fun i => decide ((nth l i).Name = s))
    (fun i => (.inl (if (nextP (nth l i).Version r).2 = true then ⟨true, l.set i ⟨(nth l i).Name, (nextP (nth l i).Version r).1, (nth l i).Note⟩⟩ else ⟨false, []⟩) : spec_FailOver_P1_0 ⊕ Unit)) (.inr ()) (fun i hi hv => ?_) ?_
  · rw [key]
    unfold atP
    cases findN (fun i => decide ((nth l i).Name = s)) l.length with
    | none => rfl
    | some i =>
      simp only [Option.bind_some]
      split <;> rfl
  · unfold spec_FailOver_L1
    simp only [List.nil_append]
    simp (disch := omega) only [decide_eq_true_eq, if_pos, guard_pos, Int.toNat_natCast, wI_id, sEq]
    by_cases h : (nth l i).Name = s
    · rw [if_pos h, if_pos h, spec_NextVersion_eq]
      simp only [Option.bind_some]
      cases hx : (nextP (nth l i).Version r).2
      · simp
      · simp
    · rw [if_neg h, if_neg h]; rfl
  · unfold spec_FailOver_L1
    rw [if_neg (by simp)]
theorem impl_FailOver_eq (l : List DomainT) (s : ByteArray) (r : Int) (hl : ok_LDomain l) : impl_FailOver l s r = some (failP l s r) := by
  unfold impl_FailOver failP
  rw [domainAt_eq _ _ hl.1, impl_GoodDomains_eq _ hl]
  simp only [Option.bind_some]
  by_cases hg : goodD l = true
  rotate_left
  · simp [hg]
  have h12 := goodD_len hg
  unfold atI
  cases ha : atP l s with
  | none => simp [hg]
  | some i =>
    obtain ⟨hi, _⟩ := atP_lt ha
    rw [if_pos hg]
    simp only [hg, Bool.not_true, Bool.false_eq_true, if_false, Option.bind_some]
    rw [if_neg (by simp), guard_pos (by omega), Int.toNat_natCast, impl_NextVersion_eq]
    simp only [Option.bind_some]
    cases hx : (nextP (nth l i).Version r).2
    · simp
    · simp only [Bool.not_true, Bool.false_eq_true, if_false, if_true]
      unfold slices_Clone_impl_Domain
      rw [guard_pos (by omega)]
      simp only [Option.bind_some]
      rw [guard_pos (by omega)]

noncomputable def mDomain (k : Int) : DomainT := ⟨mtext k, k + 1, mtext (k + 2)⟩
theorem mark_DomainS_eq (l : List DomainT) (k : Int) (hk : 0 ≤ k) (hl : l.length ≤ 1099511627776) (hb : k + ((3 * l.length : Nat) : Int) ≤ 1152921504606846976) :
    laws_markDomainS_w l k = some (k + ((3 * l.length : Nat) : Int), marks mDomain 3 k l.length) := by
  unfold laws_markDomainS_w
  have key := mark_loop (step := laws_markDomainS_w_L1) (fun i k l => (⟨k, i, l⟩ : laws_markDomainS_w_G1)) 3 mDomain l.length 1152921504606846976 (fun k l => (⟨k, l⟩ : laws_markDomainS_w_P1_0)) (fun i k l' hi hl' h0 h1 => ?_) (fun k l' hl' => ?_) k l rfl hk hb
  · rw [key]; rfl
  · unfold laws_markDomainS_w_L1
    have e1 : wI (k + 1) = k + 1 := wI_id (by omega)
    have e2 : wI (k + 1 + 1) = k + 2 := by rw [wI_id (by omega)]; omega
    have e3 : wI (k + 2 + 1) = k + 3 := by rw [wI_id (by omega)]; omega
    have e4 : wI ((i : Int) + 1) = ((i + 1 : Nat) : Int) := by rw [wI_id (by omega)]; omega
    simp only [e1, e2, e3, e4]
    rw [if_pos (by simp; omega), markText_eq k (by omega) (by omega), markText_eq (k + 2) (by omega) (by omega)]
    simp (disch := omega) only [Option.bind_some, guard_pos, Int.toNat_natCast, nth_set_same, List.set_set, List.length_set]
    rfl
  · unfold laws_markDomainS_w_L1
    rw [if_neg (by simp; omega)]
theorem held_DomainS_eq (n : Nat) (k : Int) (hk : 0 ≤ k) (hl : n ≤ 1099511627776) (hb : k + ((3 * n : Nat) : Int) ≤ 1152921504606846976) :
    laws_heldDomainS (marks mDomain 3 k n) k = some (k + ((3 * n : Nat) : Int)) := by
  unfold laws_heldDomainS
  have key := held_loop (step := laws_heldDomainS_L1 (marks mDomain 3 k n)) (fun i k => (⟨k, i⟩ : laws_heldDomainS_G1)) 3 mDomain n 1152921504606846976 (fun k => (⟨k⟩ : laws_heldDomainS_P1_1)) k (fun i k' hi hn h0 h1 => ?_) (fun k' => ?_) hk hb
  · rw [key]; rfl
  · unfold laws_heldDomainS_L1
    have e1 : wI (k' + 1) = k' + 1 := wI_id (by omega)
    have e2 : wI (k' + 1 + 1) = k' + 2 := by rw [wI_id (by omega)]; omega
    have e3 : wI (k' + 2 + 1) = k' + 3 := by rw [wI_id (by omega)]; omega
    have e4 : wI ((i : Int) + 1) = ((i + 1 : Nat) : Int) := by rw [wI_id (by omega)]; omega
    simp only [e1, e2, e3, e4]
    rw [if_pos (by simp [marks_length]; omega), markText_eq k' (by omega) (by omega), markText_eq (k' + 2) (by omega) (by omega)]
    simp (disch := simp only [marks_length]; omega) only [Option.bind_some, guard_pos, Int.toNat_natCast]
    rw [if_neg (by simp [hn, mDomain]), if_neg (by simp [hn, mDomain]), if_neg (by simp [hn, mDomain])]
    rfl
  · unfold laws_heldDomainS_L1
    rw [if_neg (by simp [marks_length])]

theorem fail_holds (l : List DomainT) (s : ByteArray) (r : Int) (hl : ok_LDomain l) : laws_FnExactFailOver l s r = some true := by
  unfold laws_FnExactFailOver
  by_cases h0 : (s.size : Int) > 1048576
  · rw [if_pos (decide_eq_true h0)]
  rw [if_neg (by simpa using h0), laws_szDomainS_eq _ _ hl (by omega) (by omega)]
  simp only [Option.bind_some]
  by_cases h : (siz_LDomain l : Int) ≤ 1048576
  rotate_left
  · rw [if_pos (decide_eq_true (szr_no h))]
  rw [if_neg (by simpa using szr_ok h), laws_toDomainS_eq _ (by omega)]
  have hz : l.length ≤ 1048576 := by unfold siz_LDomain at h; omega
  have hr := failP_len l s r
  simp only [Option.bind_some]
  rw [spec_FailOver_eq _ _ _ hl, impl_FailOver_eq _ _ _ hl]
  simp only [Option.bind_some]
  have hk : lk_LDomain (failP l s r).1 := ⟨by omega, fun y _ => ⟨trivial, trivial, trivial⟩⟩
  rw [laws_eqDomainS_eq _ _ hk, laws_eqDomainS_eq _ _ (lk_of_LDomain hl)]
  simp only [Option.bind_some, decide_true, Bool.not_true, beq_self_eq_true, Bool.false_eq_true, if_false]
  rw [mark_DomainS_eq l 1 (by omega) (by omega) (by omega), mark_DomainS_eq (failP l s r).1 1 (by omega) (by omega) (by omega)]
  simp only [Option.bind_some]
  rw [guard_pos (marks_length ..), if_neg (by simp; omega)]
  simp only [Option.bind_some, Bool.false_eq_true, if_false]
  rw [guard_pos (marks_length ..), held_DomainS_eq _ 1 (by omega) (by omega) (by omega)]
  simp only [Option.bind_some]
  rw [if_neg (by simp; omega), if_neg (by simp), if_neg (by simp; omega), if_neg (by simp)]
end Go.TL
set_option linter.unusedVariables false
set_option linter.unusedSimpArgs false
namespace Go.TL

def cmpI (a b : Int) : Int := if a < b then -1 else if b < a then 1 else 0
def cmpS (a b : ByteArray) : Int := if sLt a b = true then -1 else if a = b then 0 else 1
theorem cmp_int_eq (a b : Int) : cmp_Compare_int a b = some (cmpI a b) := by
  unfold cmp_Compare_int cmp_isNaN_int cmpI
  simp only [bne_self_eq_false, Option.bind_some, Bool.false_eq_true, if_false, decide_eq_true_eq, gt_iff_lt]
  split
  · rfl
  · split <;> rfl
theorem cmp_string_eq (a b : ByteArray) : cmp_Compare_string a b = some (cmpS a b) := by
  unfold cmp_Compare_string cmp_isNaN_string cmpS
  simp only [beq_self_eq_true, Bool.not_true, Option.bind_some, Bool.false_eq_true, if_false, sEq]
  cases h : sLt a b
  · simp only [Bool.false_eq_true, if_false, Bool.false_or]
    by_cases e : a = b
    · rw [if_pos e, decide_eq_true e]; rfl
    · rw [if_neg e, decide_eq_false e]; rfl
  · simp
theorem cmpOr2 (a b : Int) : cmp_Or_int [a, b] = some (if a ≠ 0 then a else b) := by
  unfold cmp_Or_int
  have key := find_loop (step := cmp_Or_int_L1 [a, b]) (fun i => (⟨i⟩ : cmp_Or_int_G1)) 2 (fun i => decide (nth [a, b] i ≠ 0)) (fun i => (.inl ⟨nth [a, b] i⟩ : cmp_Or_int_P1_0 ⊕ Unit)) (.inr ()) (fun i hi hv => ?_) ?_
  · rw [key]
    have n0 : nth [a, b] 0 = a := rfl
    have n1 : nth [a, b] 1 = b := rfl
    by_cases ha : a = 0
    · by_cases hb : b = 0
      · rw [findN_none (fun j hj => by
          have : j = 0 ∨ j = 1 := by omega
          rcases this with rfl | rfl
          · rw [n0]; simp [ha]
          · rw [n1]; simp [hb])]
        simp [ha, hb]
      · rw [findN_some (i := 1) (by omega) (by rw [n1]; simp [hb]) (fun j hj => by
          have : j = 0 := by omega
          subst this; rw [n0]; simp [ha])]
        simp only [Option.bind_some]
        rw [n1, if_neg (by simp [ha])]
    · rw [findN_some (i := 0) (by omega) (by rw [n0]; simp [ha]) (fun j hj => by omega)]
      simp [ha, n0]
  · unfold cmp_Or_int_L1
    have hl : ([a, b] : List Int).length = 2 := rfl
    simp (disch := omega) only [hl, decide_eq_true_eq, if_pos, guard_pos, Int.toNat_natCast, wI_id]
    by_cases h : nth [a, b] i = 0
    · rw [if_neg (by simp [h]), if_neg (by simp [h])]; rfl
    · rw [if_pos (by simp [h]), if_pos (by simp [h])]
  · unfold cmp_Or_int_L1
    rw [if_neg (by simp)]
def gtP (a b : DomainT) : Int := if cmpI a.Version b.Version ≠ 0 then cmpI a.Version b.Version else cmpS a.Note b.Note
theorem greater_eq (a b : DomainT) : impl_greater a b = some (gtP a b) := by
  unfold impl_greater gtP
  rw [cmp_int_eq]; simp only [Option.bind_some]
  rw [cmp_string_eq]; simp only [Option.bind_some]
  rw [cmpOr2]; rfl
def lessP (a b : DomainT) : Bool := decide (a.Version < b.Version) || (decide (a.Version = b.Version) && sLt a.Note b.Note)
theorem spec_less_eq (a b : DomainT) : spec_l13Less a b = some (lessP a b) := by
  unfold spec_l13Less lessP
  by_cases h : a.Version < b.Version
  · simp [h]
  · by_cases h2 : a.Version = b.Version <;> simp [h, h2]
theorem gt_less (a b : DomainT) : decide (gtP a b < 0) = lessP a b := by
  unfold gtP lessP cmpI cmpS
  by_cases h : a.Version < b.Version
  · simp [h]
  · by_cases h2 : b.Version < a.Version
    · have : ¬ a.Version = b.Version := by omega
      simp [h, h2, this]
    · have h3 : a.Version = b.Version := by omega
      simp only [h3, Int.lt_irrefl, if_false, ne_eq, not_true_eq_false, decide_false, decide_true, Bool.false_or, Bool.true_and]
      cases hs : sLt a.Note b.Note
      · by_cases e : a.Note = b.Note <;> simp [e]
      · simp

theorem bLess_nil (a : List UInt8) : bLess a [] = false := by cases a <;> rfl
theorem bLess_irrefl : ∀ l : List UInt8, bLess l l = false
  | [] => rfl
  | x :: r => by simp [bLess, bLess_irrefl r]
theorem bLess_trans : ∀ (a b c : List UInt8), bLess a b = true → bLess b c = true → bLess a c = true
  | a, b, [], _, h => by rw [bLess_nil] at h; cases h
  | a, [], _ :: _, h, _ => by rw [bLess_nil] at h; cases h
  | [], _ :: _, _ :: _, _, _ => rfl
  | x :: r, y :: q, z :: s, h1, h2 => by
    simp only [bLess, Bool.or_eq_true, Bool.and_eq_true, decide_eq_true_eq, beq_iff_eq] at h1 h2 ⊢
    rcases h1 with h1 | ⟨rfl, h1⟩
    · rcases h2 with h2 | ⟨rfl, h2⟩
      · exact .inl (UInt8.lt_trans h1 h2)
      · exact .inl h1
    · rcases h2 with h2 | ⟨rfl, h2⟩
      · exact .inl h2
      · exact .inr ⟨rfl, bLess_trans r q s h1 h2⟩
theorem goodD_asc {l : List DomainT} (h : goodD l = true) : ∀ (j i : Nat), i < j → j < l.length → sLt (nth l i).Name (nth l j).Name = true := by
  unfold goodD at h
  simp only [Bool.and_eq_true, allN_iff, decide_eq_true_eq] at h
  intro j
  induction j with
  | zero => intro i hi; omega
  | succ j ih =>
    intro i hi hj
    have hd := h.2 (j + 1) hj
    unfold domP at hd
    simp only [Bool.and_eq_true, Bool.or_eq_true, decide_eq_true_eq] at hd
    have hs : sLt (nth l j).Name (nth l (j + 1)).Name = true := hd.2.resolve_left (by omega)
    by_cases e : i = j
    · rw [e]; exact hs
    · exact bLess_trans _ _ _ (ih i (by omega) (by omega)) hs
theorem goodD_one {l : List DomainT} (h : goodD l = true) {i j : Nat} (hi : i < l.length) (hj : j < l.length) (he : (nth l i).Name = (nth l j).Name) : i = j := by
  rcases Nat.lt_trichotomy i j with h1 | h1 | h1
  · have := goodD_asc h j i h1 hj
    rw [he] at this
    have := this.symm.trans (bLess_irrefl _); cases this
  · exact h1
  · have := goodD_asc h i j h1 hi
    rw [he] at this
    have := this.symm.trans (bLess_irrefl _); cases this

/-- What is told of a domain is known in l. -/
def knowsP (l : List DomainT) (d : DomainT) : Bool := match atP l d.Name with
  | some j => !lessP (nth l j) d
  | none => false
theorem impl_knows_eq (d : DomainT) (l : List DomainT) (hl : l.length ≤ 9223372036854775807) : impl_KnowsAll_c1_r d l = some (!knowsP l d) := by
  unfold impl_KnowsAll_c1_r knowsP
  rw [domainAt_eq _ _ hl]
  simp only [Option.bind_some]
  unfold atI
  cases ha : atP l d.Name with
  | none => rfl
  | some j =>
    obtain ⟨hj, _⟩ := atP_lt ha
    simp only
    rw [if_neg (by simp), guard_pos (by omega), greater_eq]
    simp only [Option.bind_some, Int.toNat_natCast]
    rw [gt_less]; simp
theorem impl_contains_eq (a b : List DomainT) (ha : a.length ≤ 9223372036854775807) (hb : b.length ≤ 9223372036854775807) : slices_ContainsFunc_impl_Domain_impl_KnowsAll_c1r a b = some (a.any fun d => !knowsP b d) := by
  unfold slices_ContainsFunc_impl_Domain_impl_KnowsAll_c1r slices_IndexFunc_impl_Domain_impl_KnowsAll_c1r
  have key := find_loop (step := slices_IndexFunc_impl_Domain_impl_KnowsAll_c1r_L1 a b) (fun i => (⟨i⟩ : slices_IndexFunc_impl_Domain_impl_KnowsAll_c1r_G1)) a.length (fun i => !knowsP b (nth a i))
    (fun i => (.inl ⟨i⟩ : slices_IndexFunc_impl_Domain_impl_KnowsAll_c1r_P1_0 ⊕ Unit)) (.inr ()) (fun i hi hv => ?_) ?_
  · rw [key, ← findN_any a (fun d => !knowsP b d)]
    cases findN (fun i => !knowsP b (nth a i)) a.length <;> simp
  · unfold slices_IndexFunc_impl_Domain_impl_KnowsAll_c1r_L1
    simp (disch := omega) only [decide_eq_true_eq, if_pos, guard_pos, Int.toNat_natCast, wI_id]
    rw [impl_knows_eq _ _ hb]
    simp only [Option.bind_some]
    cases knowsP b (nth a i) <;> rfl
  · unfold slices_IndexFunc_impl_Domain_impl_KnowsAll_c1r_L1
    rw [if_neg (by simp)]
def knowsAllP (a b : List DomainT) : Bool × Bool := if goodD a = true ∧ goodD b = true then (a.all (knowsP b), true) else (false, false)
theorem impl_KnowsAll_eq (a b : List DomainT) (ha : ok_LDomain a) (hb : ok_LDomain b) : impl_KnowsAll a b = some (knowsAllP a b) := by
  unfold impl_KnowsAll knowsAllP
  rw [impl_GoodDomains_eq _ ha]
  simp only [Option.bind_some]
  by_cases h1 : goodD a = true
  rotate_left
  · simp [h1]
  rw [if_neg (by simp [h1]), impl_GoodDomains_eq _ hb]
  simp only [Option.bind_some]
  by_cases h2 : goodD b = true
  rotate_left
  · simp [h2]
  rw [if_neg (by simp [h2]), if_pos ⟨h1, h2⟩, impl_contains_eq _ _ ha.1 hb.1]
  simp only [Option.bind_some]
  rw [List.not_any_eq_all_not]
  simp
theorem spec_inner (a b : List DomainT) (g : spec_KnowsAll_G1) (i : Nat) (hg : g.t21 = i) (hb : goodD b = true) (hbl : b.length ≤ 9223372036854775807) :
    loopF (spec_KnowsAll_L2 b a g) ⟨false, 0⟩ = some ⟨knowsP b (nth a i)⟩ := by
  have key : ∀ (m j : Nat) (t : Bool), j + m = b.length → (t = true → knowsP b (nth a i) = true) → (t = false → ∀ k, k < j → ¬ ((nth b k).Name = (nth a i).Name ∧ lessP (nth b k) (nth a i) = false)) →
      loopF (spec_KnowsAll_L2 b a g) ⟨t, j⟩ = some ⟨knowsP b (nth a i)⟩ := by
    intro m
    induction m with
    | zero =>
      intro j t h ht hf
      have e : j = b.length := by omega
      subst e
      have hout : spec_KnowsAll_L2 b a g ⟨t, (b.length : Nat)⟩ = some (.inr ⟨t⟩) := by
        unfold spec_KnowsAll_L2; rw [if_neg (by simp)]
      rw [loop_out hout]
      cases t
      · have : knowsP b (nth a i) = false := by
          unfold knowsP
          cases ha : atP b (nth a i).Name with
          | none => rfl
          | some k =>
            obtain ⟨hk, hn⟩ := atP_lt ha
            have := hf rfl k hk
            simp only
            cases hl : lessP (nth b k) (nth a i)
            · exact absurd ⟨hn, hl⟩ this
            · rfl
        rw [this]
      · rw [ht rfl]
    | succ m ih =>
      intro j t h ht hf
      have hj : j < b.length := by omega
      have e4 : wI ((j : Int) + 1) = ((j + 1 : Nat) : Int) := by rw [wI_id (by omega)]; omega
      cases t
      · by_cases hn : (nth b j).Name = (nth a i).Name
        · have hstep : spec_KnowsAll_L2 b a g ⟨false, (j : Nat)⟩ = some (.inl ⟨!lessP (nth b j) (nth a i), ((j + 1 : Nat) : Int)⟩) := by
            unfold spec_KnowsAll_L2
            simp only [hg]
            rw [if_pos (by simp; omega), guard_pos (by omega)]
            simp only [Int.toNat_natCast, Bool.false_eq_true, if_false]
            rw [if_pos (by rw [hn]; simp), spec_less_eq, e4]; rfl
          rw [loop_on hstep]
          refine ih (j + 1) _ (by omega) (fun ht' => ?_) (fun hf' k hk => ?_)
          · unfold knowsP
            have hat : atP b (nth a i).Name = some j := by
              unfold atP
              refine findN_some hj (by simp [hn]) fun k hk => ?_
              rw [decide_eq_false]
              intro he
              have := goodD_one hb (by omega) hj (he.trans hn.symm)
              omega
            rw [hat]; exact ht'
          · by_cases ek : k = j
            · subst ek; rintro ⟨_, h2⟩; rw [h2] at hf'; cases hf'
            · exact hf rfl k (by omega)
        · have hstep : spec_KnowsAll_L2 b a g ⟨false, (j : Nat)⟩ = some (.inl ⟨false, ((j + 1 : Nat) : Int)⟩) := by
            unfold spec_KnowsAll_L2
            simp only [hg]
            rw [if_pos (by simp; omega), guard_pos (by omega)]
            simp only [Int.toNat_natCast, Bool.false_eq_true, if_false]
            rw [if_neg (by rw [sEq]; simp [hn]), e4]
          rw [loop_on hstep]
          refine ih (j + 1) _ (by omega) (fun ht' => by cases ht') (fun hf' k hk => ?_)
          by_cases ek : k = j
          · subst ek; rintro ⟨h1, _⟩; exact hn h1
          · exact hf rfl k (by omega)
      · have hstep : spec_KnowsAll_L2 b a g ⟨true, (j : Nat)⟩ = some (.inl ⟨true, ((j + 1 : Nat) : Int)⟩) := by
          unfold spec_KnowsAll_L2
          simp only
          rw [if_pos (by simp; omega), guard_pos (by omega), if_pos trivial, e4]
        rw [loop_on hstep]
        exact ih (j + 1) _ (by omega) (fun _ => ht rfl) (fun h => by cases h)
  exact key b.length 0 false (by omega) (fun h => by cases h) (fun _ k hk => by omega)
theorem spec_KnowsAll_eq (a b : List DomainT) (ha : ok_LDomain a) (hb : ok_LDomain b) : spec_KnowsAll a b = some (knowsAllP a b) := by
  have hl := ha.1
  unfold spec_KnowsAll knowsAllP
  rw [spec_GoodDomains_eq _ ha]
  simp only [Option.bind_some]
  by_cases h1 : goodD a = true
  rotate_left
  · simp [h1]
  rw [if_neg (by simp [h1]), spec_GoodDomains_eq _ hb]
  simp only [Option.bind_some]
  by_cases h2 : goodD b = true
  rotate_left
  · simp [h2]
  rw [if_neg (by simp [h2]), if_pos ⟨h1, h2⟩]
  have key := all_loop (step := spec_KnowsAll_L1 a b) (fun i => (⟨i⟩ : spec_KnowsAll_G1)) a.length (fun i => knowsP b (nth a i)) (.inr () : Unit ⊕ Unit) (.inl ()) (fun i hi hv => ?_) (fun _ => ?_)
  · rw [key, allN_nth a (knowsP b)]
    cases a.all (knowsP b) <;> simp
  · unfold spec_KnowsAll_L1
    simp only
    rw [if_pos (by simp; omega), guard_pos (by omega), spec_inner a b _ i rfl h2 hb.1]
    simp only [Option.bind_some]
    rw [wI_id (by omega)]
    cases knowsP b (nth a i) <;> rfl
  · unfold spec_KnowsAll_L1
    rw [if_neg (by simp)]
theorem knows_holds (a b : List DomainT) (ha : ok_LDomain a) (hb : ok_LDomain b) : laws_FnExactKnowsAll a b = some true := by
  unfold laws_FnExactKnowsAll
  rw [laws_szDomainS_eq _ _ ha (by omega) (by omega)]
  simp only [Option.bind_some]
  by_cases h : (siz_LDomain a : Int) ≤ 1048576
  rotate_left
  · rw [if_pos (decide_eq_true (szr_no h))]
  rw [if_neg (by simpa using szr_ok h), szr_ok' h, laws_szDomainS_eq _ _ hb (by omega) (by omega)]
  simp only [Option.bind_some]
  by_cases h' : (siz_LDomain b : Int) ≤ 1048576 - (siz_LDomain a : Int)
  rotate_left
  · rw [if_pos (decide_eq_true (szr_no h'))]
  rw [if_neg (by simpa using szr_ok h'), laws_toDomainS_eq _ (by omega), laws_toDomainS_eq _ (by omega)]
  simp only [Option.bind_some]
  rw [spec_KnowsAll_eq _ _ ha hb, impl_KnowsAll_eq _ _ ha hb, laws_eqDomainS_eq _ _ (lk_of_LDomain ha), laws_eqDomainS_eq _ _ (lk_of_LDomain hb)]
  simp
end Go.TL

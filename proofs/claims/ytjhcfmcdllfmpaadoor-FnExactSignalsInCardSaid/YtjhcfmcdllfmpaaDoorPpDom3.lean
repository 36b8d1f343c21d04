import Derived.Test.YtjhcfmcdllfmpaaDoorPpDom2
set_option linter.unusedSimpArgs false
set_option linter.unusedVariables false
set_option linter.unusedVariables false
set_option linter.unusedSimpArgs false
namespace Go.TL

def cmpI (a b : Int) : Int := if a < b then -1 else if b < a then 1 else 0
def cmpS (a b : ByteArray) : Int := if sLt a b = true then -1 else if a = b then 0 else 1
theorem cmp_int_eq (a b : Int) : cmp_Compare_int a b = some (cmpI a b) := by
  unfold cmp_Compare_int cmp_isNaN_int cmpI
  simp only [bne_self_eq_false, Option.bind_some, Bool.false_eq_true, if_false, decide_eq_true_eq, gt_iff_lt]
  split
  · rfl
  · split <;> rfl
theorem cmp_string_eq (a b : ByteArray) : cmp_Compare_string a b = some (cmpS a b) := by
  unfold cmp_Compare_string cmp_isNaN_string cmpS
  simp only [beq_self_eq_true, Bool.not_true, Option.bind_some, Bool.false_eq_true, if_false, sEq]
  cases h : sLt a b
  · simp only [Bool.false_eq_true, if_false, Bool.false_or]
    by_cases e : a = b
    · rw [if_pos e, decide_eq_true e]; rfl
    · rw [if_neg e, decide_eq_false e]; rfl
  · simp
theorem cmpOr2 (a b : Int) : cmp_Or_int [a, b] = some (if a ≠ 0 then a else b) := by
  unfold cmp_Or_int
  have key := find_loop (step := cmp_Or_int_L1 [a, b]) (fun i => (⟨i⟩ : cmp_Or_int_G1)) 2 (fun i => decide (nth [a, b] i ≠ 0)) (fun i => (.inl ⟨nth [a, b] i⟩ : cmp_Or_int_P1_0 ⊕ Unit)) (.inr ()) (fun i hi hv => ?_) ?_
  · rw [key]
    have n0 : nth [a, b] 0 = a := rfl
    have n1 : nth [a, b] 1 = b := rfl
    by_cases ha : a = 0
    · by_cases hb : b = 0
      · rw [findN_none (fun j hj => by
          have : j = 0 ∨ j = 1 := by omega
          rcases this with rfl | rfl
          · rw [n0]; simp [ha]
          · rw [n1]; simp [hb])]
        simp [ha, hb]
      · rw [findN_some (i := 1) (by omega) (by rw [n1]; simp [hb]) (fun j hj => by
          have : j = 0 := by omega
          subst this; rw [n0]; simp [ha])]
        simp only [Option.bind_some]
        rw [n1, if_neg (by simp [ha])]
    · rw [findN_some (i := 0) (by omega) (by rw [n0]; simp [ha]) (fun j hj => by omega)]
      simp [ha, n0]
  · unfold cmp_Or_int_L1
    have hl : ([a, b] : List Int).length = 2 := rfl
    simp (disch := omega) only [hl, decide_eq_true_eq, if_pos, guard_pos, Int.toNat_natCast, wI_id]
    by_cases h : nth [a, b] i = 0
    · rw [if_neg (by simp [h]), if_neg (by simp [h])]; rfl
    · rw [if_pos (by simp [h]), if_pos (by simp [h])]
  · unfold cmp_Or_int_L1
    rw [if_neg (by simp)]
def gtP (a b : DomainT) : Int := if cmpI a.Version b.Version ≠ 0 then cmpI a.Version b.Version else cmpS a.Note b.Note
theorem greater_eq (a b : DomainT) : impl_greater a b = some (gtP a b) := by
  unfold impl_greater gtP
  rw [cmp_int_eq]; simp only [Option.bind_some]
  rw [cmp_string_eq]; simp only [Option.bind_some]
  rw [cmpOr2]; rfl
def lessP (a b : DomainT) : Bool := decide (a.Version < b.Version) || (decide (a.Version = b.Version) && sLt a.Note b.Note)
theorem spec_less_eq (a b : DomainT) : spec_l13Less a b = some (lessP a b) := by
  unfold spec_l13Less lessP
  by_cases h : a.Version < b.Version
  · simp [h]
  · by_cases h2 : a.Version = b.Version <;> simp [h, h2]
theorem gt_less (a b : DomainT) : decide (gtP a b < 0) = lessP a b := by
  unfold gtP lessP cmpI cmpS
  by_cases h : a.Version < b.Version
  · simp [h]
  · by_cases h2 : b.Version < a.Version
    · have : ¬ a.Version = b.Version := by omega
      simp [h, h2, this]
    · have h3 : a.Version = b.Version := by omega
      simp only [h3, Int.lt_irrefl, if_false, ne_eq, not_true_eq_false, decide_false, decide_true, Bool.false_or, Bool.true_and]
      cases hs : sLt a.Note b.Note
      · by_cases e : a.Note = b.Note <;> simp [e]
      · simp

theorem bLess_nil (a : List UInt8) : bLess a [] = false := by cases a <;> rfl
theorem bLess_irrefl : ∀ l : List UInt8, bLess l l = false
  | [] => rfl
  | x :: r => by simp [bLess, bLess_irrefl r]
theorem bLess_trans : ∀ (a b c : List UInt8), bLess a b = true → bLess b c = true → bLess a c = true
  | a, b, [], _, h => by rw [bLess_nil] at h; cases h
  | a, [], _ :: _, h, _ => by rw [bLess_nil] at h; cases h
  | [], _ :: _, _ :: _, _, _ => rfl
  | x :: r, y :: q, z :: s, h1, h2 => by
    simp only [bLess, Bool.or_eq_true, Bool.and_eq_true, decide_eq_true_eq, beq_iff_eq] at h1 h2 ⊢
    rcases h1 with h1 | ⟨rfl, h1⟩
    · rcases h2 with h2 | ⟨rfl, h2⟩
      · exact .inl (UInt8.lt_trans h1 h2)
      · exact .inl h1
    · rcases h2 with h2 | ⟨rfl, h2⟩
      · exact .inl h2
      · exact .inr ⟨rfl, bLess_trans r q s h1 h2⟩
theorem goodD_asc {l : List DomainT} (h : goodD l = true) : ∀ (j i : Nat), i < j → j < l.length → sLt (nth l i).Name (nth l j).Name = true := by
  unfold goodD at h
  simp only [Bool.and_eq_true, allN_iff, decide_eq_true_eq] at h
  intro j
  induction j with
  | zero => intro i hi; omega
  | succ j ih =>
    intro i hi hj
    have hd := h.2 (j + 1) hj
    unfold domP at hd
    simp only [Bool.and_eq_true, Bool.or_eq_true, decide_eq_true_eq] at hd
    have hs : sLt (nth l j).Name (nth l (j + 1)).Name = true := hd.2.resolve_left (by omega)
    by_cases e : i = j
    · rw [e]; exact hs
    · exact bLess_trans _ _ _ (ih i (by omega) (by omega)) hs
theorem goodD_one {l : List DomainT} (h : goodD l = true) {i j : Nat} (hi : i < l.length) (hj : j < l.length) (he : (nth l i).Name = (nth l j).Name) : i = j := by
  rcases Nat.lt_trichotomy i j with h1 | h1 | h1
  · have := goodD_asc h j i h1 hj
    rw [he] at this
    have := this.symm.trans (bLess_irrefl _); cases this
  · exact h1
  · have := goodD_asc h i j h1 hi
    rw [he] at this
    have := this.symm.trans (bLess_irrefl _); cases this

/-- What is told of a domain is known in l. -/
def knowsP (l : List DomainT) (d : DomainT) : Bool := match atP l d.Name with
  | some j => !lessP (nth l j) d
  | none => false
theorem impl_knows_eq (d : DomainT) (l : List DomainT) (hl : l.length ≤ 9223372036854775807) : impl_KnowsAll_c1_r d l = some (!knowsP l d) := by
  unfold impl_KnowsAll_c1_r knowsP
  rw [domainAt_eq _ _ hl]
  simp only [Option.bind_some]
  unfold atI
  cases ha : atP l d.Name with
  | none => rfl
  | some j =>
    obtain ⟨hj, _⟩ := atP_lt ha
    simp only
    rw [if_neg (by simp), guard_pos (by omega), greater_eq]
    simp only [Option.bind_some, Int.toNat_natCast]
    rw [gt_less]; simp
theorem impl_contains_eq (a b : List DomainT) (ha : a.length ≤ 9223372036854775807) (hb : b.length ≤ 9223372036854775807) : slices_ContainsFunc_impl_Domain_impl_KnowsAll_c1r a b = some (a.any fun d => !knowsP b d) := by
  unfold slices_ContainsFunc_impl_Domain_impl_KnowsAll_c1r slices_IndexFunc_impl_Domain_impl_KnowsAll_c1r
  have key := find_loop (step := slices_IndexFunc_impl_Domain_impl_KnowsAll_c1r_L1 a b) (fun i => (⟨i⟩ : slices_IndexFunc_impl_Domain_impl_KnowsAll_c1r_G1)) a.length (fun i => !knowsP b (nth a i))
    (fun i => (.inl ⟨i⟩ : slices_IndexFunc_impl_Domain_impl_KnowsAll_c1r_P1_0 ⊕ Unit)) (.inr ()) (fun i hi hv => ?_) ?_
  · rw [key, ← findN_any a (fun d => !knowsP b d)]
    cases findN (fun i => !knowsP b (nth a i)) a.length <;> simp
  · unfold slices_IndexFunc_impl_Domain_impl_KnowsAll_c1r_L1
    simp (disch := omega) only [decide_eq_true_eq, if_pos, guard_pos, Int.toNat_natCast, wI_id]
    rw [impl_knows_eq _ _ hb]
    simp only [Option.bind_some]
    cases knowsP b (nth a i) <;> rfl
  · unfold slices_IndexFunc_impl_Domain_impl_KnowsAll_c1r_L1
    rw [if_neg (by simp)]
def knowsAllP (a b : List DomainT) : Bool × Bool := if goodD a = true ∧ goodD b = true then (a.all (knowsP b), true) else (false, false)
theorem impl_KnowsAll_eq (a b : List DomainT) (ha : ok_LDomain a) (hb : ok_LDomain b) : impl_KnowsAll a b = some (knowsAllP a b) := by
  unfold impl_KnowsAll knowsAllP
  rw [impl_GoodDomains_eq _ ha]
  simp only [Option.bind_some]
  by_cases h1 : goodD a = true
  rotate_left
  · simp [h1]
  rw [if_neg (by simp [h1]), impl_GoodDomains_eq _ hb]
  simp only [Option.bind_some]
  by_cases h2 : goodD b = true
  rotate_left
  · simp [h2]
  rw [if_neg (by simp [h2]), if_pos ⟨h1, h2⟩, impl_contains_eq _ _ ha.1 hb.1]
  simp only [Option.bind_some]
  rw [List.not_any_eq_all_not]
  simp
theorem spec_inner (a b : List DomainT) (g : spec_KnowsAll_G1) (i : Nat) (hg : g.t21 = i) (hb : goodD b = true) (hbl : b.length ≤ 9223372036854775807) :
    loopF (spec_KnowsAll_L2 b a g) ⟨false, 0⟩ = some ⟨knowsP b (nth a i)⟩ := by
  have key : ∀ (m j : Nat) (t : Bool), j + m = b.length → (t = true → knowsP b (nth a i) = true) → (t = false → ∀ k, k < j → ¬ ((nth b k).Name = (nth a i).Name ∧ lessP (nth b k) (nth a i) = false)) →
      loopF (spec_KnowsAll_L2 b a g) ⟨t, j⟩ = some ⟨knowsP b (nth a i)⟩ := by
    intro m
    induction m with
    | zero =>
      intro j t h ht hf
      have e : j = b.length := by omega
      subst e
      have hout : spec_KnowsAll_L2 b a g ⟨t, (b.length : Nat)⟩ = some (.inr ⟨t⟩) := by
        unfold spec_KnowsAll_L2; rw [if_neg (by simp)]
      rw [loop_out hout]
      cases t
      · have : knowsP b (nth a i) = false := by
          unfold knowsP
          cases ha : atP b (nth a i).Name with
          | none => rfl
          | some k =>
            obtain ⟨hk, hn⟩ := atP_lt ha
            have := hf rfl k hk
            simp only
            cases hl : lessP (nth b k) (nth a i)
            · exact absurd ⟨hn, hl⟩ this
            · rfl
        rw [this]
      · rw [ht rfl]
    | succ m ih =>
      intro j t h ht hf
      have hj : j < b.length := by omega
      have e4 : wI ((j : Int) + 1) = ((j + 1 : Nat) : Int) := by rw [wI_id (by omega)]; omega
      cases t
      · by_cases hn : (nth b j).Name = (nth a i).Name
        · have hstep : spec_KnowsAll_L2 b a g ⟨false, (j : Nat)⟩ = some (.inl ⟨!lessP (nth b j) (nth a i), ((j + 1 : Nat) : Int)⟩) := by
            unfold spec_KnowsAll_L2
            simp only [hg]
            rw [if_pos (by simp; omega), guard_pos (by omega)]
            simp only [Int.toNat_natCast, Bool.false_eq_true, if_false]
            rw [if_pos (by rw [hn]; simp), spec_less_eq, e4]; rfl
          rw [loop_on hstep]
          refine ih (j + 1) _ (by omega) (fun ht' => ?_) (fun hf' k hk => ?_)
          · unfold knowsP
            have hat : atP b (nth a i).Name = some j := by
              unfold atP
              refine findN_some hj (by simp [hn]) fun k hk => ?_
              rw [decide_eq_false]
              intro he
              have := goodD_one hb (by omega) hj (he.trans hn.symm)
              omega
            rw [hat]; exact ht'
          · by_cases ek : k = j
            · subst ek; rintro ⟨_, h2⟩; rw [h2] at hf'; cases hf'
            · exact hf rfl k (by omega)
        · have hstep : spec_KnowsAll_L2 b a g ⟨false, (j : Nat)⟩ = some (.inl ⟨false, ((j + 1 : Nat) : Int)⟩) := by
            unfold spec_KnowsAll_L2
            simp only [hg]
            rw [if_pos (by simp; omega), guard_pos (by omega)]
            simp only [Int.toNat_natCast, Bool.false_eq_true, if_false]
            rw [if_neg (by rw [sEq]; simp [hn]), e4]
          rw [loop_on hstep]
          refine ih (j + 1) _ (by omega) (fun ht' => by cases ht') (fun hf' k hk => ?_)
          by_cases ek : k = j
          · subst ek; rintro ⟨h1, _⟩; exact hn h1
          · exact hf rfl k (by omega)
      · have hstep : spec_KnowsAll_L2 b a g ⟨true, (j : Nat)⟩ = some (.inl ⟨true, ((j + 1 : Nat) : Int)⟩) := by
          unfold spec_KnowsAll_L2
          simp only
          rw [if_pos (by simp; omega), guard_pos (by omega), if_pos trivial, e4]
        rw [loop_on hstep]
        exact ih (j + 1) _ (by omega) (fun _ => ht rfl) (fun h => by cases h)
  exact key b.length 0 false (by omega) (fun h => by cases h) (fun _ k hk => by omega)
theorem spec_KnowsAll_eq (a b : List DomainT) (ha : ok_LDomain a) (hb : ok_LDomain b) : spec_KnowsAll a b = some (knowsAllP a b) := by
  have hl := ha.1
  unfold spec_KnowsAll knowsAllP
  rw [spec_GoodDomains_eq _ ha]
  simp only [Option.bind_some]
  by_cases h1 : goodD a = true
  rotate_left
  · simp [h1]
  rw [if_neg (by simp [h1]), spec_GoodDomains_eq _ hb]
  simp only [Option.bind_some]
  by_cases h2 : goodD b = true
  rotate_left
  · simp [h2]
  rw [if_neg (by simp [h2]), if_pos ⟨h1, h2⟩]
  have key := all_loop (step := spec_KnowsAll_L1 a b) (fun i => (⟨i⟩ : spec_KnowsAll_G1)) a.length (fun i => knowsP b (nth a i)) (.inr () : Unit ⊕ Unit) (.inl ()) (fun i hi hv => ?_) (fun _ => ?_)
  · rw [key, allN_nth a (knowsP b)]
    cases a.all (knowsP b) <;> simp
  · unfold spec_KnowsAll_L1
    simp only
    rw [if_pos (by simp; omega), guard_pos (by omega), spec_inner a b _ i rfl h2 hb.1]
    simp only [Option.bind_some]
    rw [wI_id (by omega)]
    cases knowsP b (nth a i) <;> rfl
  · unfold spec_KnowsAll_L1
    rw [if_neg (by simp)]
theorem knows_holds (a b : List DomainT) (ha : ok_LDomain a) (hb : ok_LDomain b) : laws_FnExactKnowsAll a b = some true := by
  unfold laws_FnExactKnowsAll
  rw [laws_szDomainS_eq _ _ ha (by omega) (by omega)]
  simp only [Option.bind_some]
  by_cases h : (siz_LDomain a : Int) ≤ 1048576
  rotate_left
  · rw [if_pos (decide_eq_true (szr_no h))]
  rw [if_neg (by simpa using szr_ok h), szr_ok' h, laws_szDomainS_eq _ _ hb (by omega) (by omega)]
  simp only [Option.bind_some]
  by_cases h' : (siz_LDomain b : Int) ≤ 1048576 - (siz_LDomain a : Int)
  rotate_left
  · rw [if_pos (decide_eq_true (szr_no h'))]
  rw [if_neg (by simpa using szr_ok h'), laws_toDomainS_eq _ (by omega), laws_toDomainS_eq _ (by omega)]
  simp only [Option.bind_some]
  rw [spec_KnowsAll_eq _ _ ha hb, impl_KnowsAll_eq _ _ ha hb, laws_eqDomainS_eq _ _ (lk_of_LDomain ha), laws_eqDomainS_eq _ _ (lk_of_LDomain hb)]
  simp
end Go.TL

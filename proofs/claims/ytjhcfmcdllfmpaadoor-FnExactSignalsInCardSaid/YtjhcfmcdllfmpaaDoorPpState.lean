import Derived.Test.YtjhcfmcdllfmpaaDoorPpR3D
import Derived.Test.YtjhcfmcdllfmpaaDoorPpDom3
set_option linter.unusedSimpArgs false
set_option linter.unusedVariables false
set_option linter.unusedVariables false
set_option linter.unusedSimpArgs false
namespace Go.TL

theorem bLess_tri : ∀ a b : List UInt8, bLess a b = true ∨ a = b ∨ bLess b a = true
  | [], [] => .inr (.inl rfl)
  | [], _ :: _ => .inl rfl
  | _ :: _, [] => .inr (.inr rfl)
  | x :: r, y :: q => by
    simp only [bLess, Bool.or_eq_true, Bool.and_eq_true, decide_eq_true_eq, beq_iff_eq, List.cons.injEq]
    rcases Nat.lt_trichotomy x.toNat y.toNat with h | h | h
    · exact .inl (.inl (UInt8.lt_iff_toNat_lt.2 h))
    · have e : x = y := UInt8.toNat_inj.1 h
      subst e
      rcases bLess_tri r q with h | h | h
      · exact .inl (.inr ⟨rfl, h⟩)
      · exact .inr (.inl ⟨rfl, h⟩)
      · exact .inr (.inr (.inr ⟨rfl, h⟩))
    · exact .inr (.inr (.inl (UInt8.lt_iff_toNat_lt.2 h)))
theorem sLt_irrefl (a : ByteArray) : sLt a a = false := bLess_irrefl _
theorem sLt_trans {a b c : ByteArray} (h1 : sLt a b = true) (h2 : sLt b c = true) : sLt a c = true := bLess_trans _ _ _ h1 h2
theorem sLt_asym {a b : ByteArray} (h : sLt a b = true) : sLt b a = false := by
  cases h2 : sLt b a with
  | false => rfl
  | true => have := sLt_trans h h2; rw [sLt_irrefl] at this; cases this
theorem sLt_tri (a b : ByteArray) : sLt a b = true ∨ a = b ∨ sLt b a = true := by
  rcases bLess_tri a.toList b.toList with h | h | h
  · exact .inl h
  · exact .inr (.inl (bytes_inj h))
  · exact .inr (.inr h)
/-- a > b, as the program has it. -/
theorem sGt (a b : ByteArray) : (!(sLt a b || a.toList == b.toList)) = sLt b a := by
  rw [sEq]
  rcases sLt_tri a b with h | h | h
  · simp [h, sLt_asym h]
  · subst h; simp [sLt_irrefl]
  · have hn : a ≠ b := fun e => by subst e; rw [sLt_irrefl] at h; cases h
    simp [h, sLt_asym h, hn]

def hasS (l : List ByteArray) (s : ByteArray) : Bool := l.any fun x => decide (x = s)
theorem hasS_iff {l : List ByteArray} {s : ByteArray} : hasS l s = true ↔ s ∈ l := by
  unfold hasS
  rw [List.any_eq_true]
  exact ⟨fun ⟨x, h1, h2⟩ => by rw [decide_eq_true_eq] at h2; rw [← h2]; exact h1, fun h => ⟨s, h, by simp⟩⟩
def atS (l : List ByteArray) (s : ByteArray) : Option Nat := findN (fun i => decide (nth l i = s)) l.length
theorem atS_isSome (l : List ByteArray) (s : ByteArray) : (atS l s).isSome = hasS l s := findN_any l fun x => decide (x = s)
theorem spec_l12At_eq (l : List ByteArray) (s : ByteArray) (hl : l.length ≤ 9223372036854775807) : spec_l12At l s = some (match atS l s with | some i => (i : Int) | none => -1) := by
  unfold spec_l12At
  have key := find_loop (step := spec_l12At_L1 l s) (fun i => (⟨i⟩ : spec_l12At_G1)) l.length (fun i => decide (nth l i = s)) (fun i => (.inl ⟨i⟩ : spec_l12At_P1_0 ⊕ Unit)) (.inr ()) (fun i hi hv => ?_) ?_
  · rw [key]
    unfold atS
    cases findN (fun i => decide (nth l i = s)) l.length <;> rfl
  · unfold spec_l12At_L1
    simp (disch := omega) only [decide_eq_true_eq, if_pos, guard_pos, Int.toNat_natCast, wI_id, Option.bind_some, sEq]
    by_cases h : nth l i = s
    · rw [if_pos h, if_pos h]
    · rw [if_neg h, if_neg h]; rfl
  · unfold spec_l12At_L1
    rw [if_neg (by simp)]
theorem spec_l12At_ge (l : List ByteArray) (s : ByteArray) (hl : l.length ≤ 9223372036854775807) : ∃ k, spec_l12At l s = some k ∧ decide (k ≥ 0) = hasS l s := by
  refine ⟨_, spec_l12At_eq l s hl, ?_⟩
  rw [← atS_isSome]
  cases atS l s with
  | none => rfl
  | some i => simp
theorem containsS_eq (l : List ByteArray) (s : ByteArray) (hl : l.length ≤ 9223372036854775807) : slices_Contains_string l s = some (hasS l s) := by
  unfold slices_Contains_string slices_Index_string
  have key := find_loop (step := slices_Index_string_L1 l s) (fun i => (⟨i⟩ : slices_Index_string_G1)) l.length (fun i => decide (nth l i = s)) (fun i => (.inl ⟨i⟩ : slices_Index_string_P1_0 ⊕ Unit)) (.inr ()) (fun i hi hv => ?_) ?_
  · rw [key, ← atS_isSome]
    unfold atS
    cases findN (fun i => decide (nth l i = s)) l.length <;> simp
  · unfold slices_Index_string_L1
    simp (disch := omega) only [decide_eq_true_eq, if_pos, guard_pos, Int.toNat_natCast, wI_id, Option.bind_some, sEq]
    by_cases h : nth l i = s
    · rw [if_pos h.symm, if_pos h]
    · rw [if_neg (fun e => h e.symm), if_neg h]; rfl
  · unfold slices_Index_string_L1
    rw [if_neg (by simp)]

theorem nth_take {α : Type} [Inhabited α] {l : List α} {i k : Nat} (h : k < i) : nth (l.take i) k = nth l k := by
  unfold nth
  rw [List.getD_eq_getElem?_getD, List.getD_eq_getElem?_getD, List.getElem?_take_of_lt h]

/-- Names, at most thirty, none twice; rising where r is. -/
def okL (r : Bool) (l : List ByteArray) : Bool :=
  decide (l.length ≤ 30) && allN (fun i => nameP (nth l i) && allN (fun k => !decide (nth l k = nth l i) && (!r || !decide (k + 1 = i) || !sLt (nth l i) (nth l k))) i) l.length
theorem spec_l12Names_eq (r : Bool) (l : List ByteArray) (hl : ok_LS l) : spec_l12Names l r = some (okL r l) := by
  have h1 := hl.1
  unfold spec_l12Names okL
  have key := all_loop (step := spec_l12Names_L1 l r) (fun i => (⟨i⟩ : spec_l12Names_G1)) l.length (fun i => nameP (nth l i) && allN (fun k => !decide (nth l k = nth l i) && (!r || !decide (k + 1 = i) || !sLt (nth l i) (nth l k))) i) (.inr () : Unit ⊕ Unit) (.inl ()) (fun i hi hv => ?_) (fun _ => ?_)
  · rw [key]
    have hsz : decide (((l.length : Nat) : Int) ≤ 30) = decide (l.length ≤ 30) := by congr 1; apply propext; omega
    cases allN (fun i => nameP (nth l i) && allN (fun k => !decide (nth l k = nth l i) && (!r || !decide (k + 1 = i) || !sLt (nth l i) (nth l k))) i) l.length
    · simp
    · simp [hsz]
  · have hm : ok_S (nth l i) := hl.2 _ (nth_mem hi)
    unfold spec_l12Names_L1
    rw [if_pos (by simp; omega), guard_pos (by simp; omega)]
    simp only [Int.toNat_natCast]
    rw [spec_l1Name_eq _ hm]
    simp only [Option.bind_some]
    cases hn : nameP (nth l i)
    · simp
    have ht : (l.take i).length = i := by rw [List.length_take]; omega
    rw [if_neg (by simp), guard_pos (by simp; omega)]
    have key2 := all_loop (step := spec_l12Names_L2 l (⟨(i : Int)⟩ : spec_l12Names_G1) r) (fun k => (⟨k⟩ : spec_l12Names_G2)) i (fun k => !decide (nth l k = nth l i) && (!r || !decide (k + 1 = i) || !sLt (nth l i) (nth l k))) (.inr () : Unit ⊕ Unit) (.inl ()) (fun k hk _ => ?_) (fun _ => ?_)
    · rw [key2, Bool.true_and]
      cases allN (fun k => !decide (nth l k = nth l i) && (!r || !decide (k + 1 = i) || !sLt (nth l i) (nth l k))) i
      · simp
      · simp (disch := omega) [wI_id]
    · unfold spec_l12Names_L2
      simp only [Int.toNat_natCast, ht]
      rw [if_pos (by simp; omega), guard_pos (by omega)]
      simp (disch := omega) only [nth_take hk, sGt, wI_id]
      rw [sEq]
      have ek : (((k : Int)) == (i : Int) - 1) = decide (k + 1 = i) := by
        rw [Bool.eq_iff_iff, beq_iff_eq, decide_eq_true_eq]; omega
      rw [ek]
      by_cases he : nth l k = nth l i
      · simp [he]
      · cases r
        · simp [he]
        · by_cases h2 : k + 1 = i
          · cases h3 : sLt (nth l i) (nth l k) <;> (simp [he, h2, h3]; try omega)
          · simp [he, h2]
    · unfold spec_l12Names_L2
      simp only [Int.toNat_natCast, ht]
      rw [if_neg (by simp)]
  · unfold spec_l12Names_L1
    rw [if_neg (by simp)]

theorem impl_namesOk_eq (l : List ByteArray) (hl : l.length ≤ 9223372036854775807) : impl_namesOk l 30 = some (decide (l.length ≤ 30) && l.all nameP) := by
  unfold impl_namesOk
  by_cases h : l.length ≤ 30
  rotate_left
  · rw [if_neg (by simp; omega)]; simp [h]
  rw [if_pos (by simp; omega)]
  unfold slices_ContainsFunc_string_impl_namesOk_c1 slices_IndexFunc_string_impl_namesOk_c1
  have key := find_loop (step := slices_IndexFunc_string_impl_namesOk_c1_L1 l) (fun i => (⟨i⟩ : slices_IndexFunc_string_impl_namesOk_c1_G1)) l.length (fun i => !nameP (nth l i)) (fun i => (.inl ⟨i⟩ : slices_IndexFunc_string_impl_namesOk_c1_P1_0 ⊕ Unit)) (.inr ()) (fun i hi hv => ?_) ?_
  · rw [key]
    have e := findN_any l fun x => !nameP x
    have e2 : (l.any fun x => !nameP x) = !l.all nameP := by
      rw [Bool.eq_iff_iff]; simp
    rw [e2] at e
    cases hf : findN (fun i => !nameP (nth l i)) l.length with
    | none => rw [hf] at e; simp at e; simp [h]; exact e
    | some i => rw [hf] at e; simp at e; simp [h]; exact e
  · unfold slices_IndexFunc_string_impl_namesOk_c1_L1 impl_namesOk_c1
    simp (disch := omega) only [decide_eq_true_eq, if_pos, guard_pos, Int.toNat_natCast, wI_id, Option.bind_some, impl_goodName_eq]
    cases nameP (nth l i) <;> rfl
  · unfold slices_IndexFunc_string_impl_namesOk_c1_L1
    rw [if_neg (by simp)]
def dstB (l : List ByteArray) : Bool := allN (fun i => !hasS (l.take i) (nth l i)) l.length
theorem impl_distinct_eq (l : List ByteArray) (hl : l.length ≤ 9223372036854775807) : impl_distinct l = some (dstB l) := by
  unfold impl_distinct dstB
  have key := all_loop (step := impl_distinct_L1 l) (fun i => (⟨i⟩ : impl_distinct_G1)) l.length (fun i => !hasS (l.take i) (nth l i)) (.inr () : Unit ⊕ Unit) (.inl ()) (fun i hi hv => ?_) (fun _ => ?_)
  · rw [key]
    cases allN (fun i => !hasS (l.take i) (nth l i)) l.length <;> simp
  · unfold impl_distinct_L1
    rw [if_pos (by simp; omega), guard_pos (by simp; omega), guard_pos (by simp; omega)]
    simp only [Int.toNat_natCast]
    rw [containsS_eq _ _ (by rw [List.length_take]; omega)]
    simp only [Option.bind_some]
    rw [wI_id (by omega)]
    cases hasS (l.take i) (nth l i) <;> rfl
  · unfold impl_distinct_L1
    rw [if_neg (by simp)]
theorem cmpLess_eq (a b : ByteArray) : cmp_Less_string a b = some (sLt a b) := by
  unfold cmp_Less_string cmp_isNaN_string
  simp
def srtB (l : List ByteArray) : Bool := allN (fun i => decide (i = 0) || !sLt (nth l i) (nth l (i - 1))) l.length
theorem impl_IsSorted_eq (l : List ByteArray) (hl : l.length ≤ 9223372036854775807) : slices_IsSorted_string l = some (srtB l) := by
  have key : ∀ m : Nat, m < l.length → (∀ j, m < j → j < l.length → (decide (j = 0) || !sLt (nth l j) (nth l (j - 1))) = true) → loopF (slices_IsSorted_string_L1 l) ⟨(m : Int)⟩ = some (if srtB l = true then .inr () else .inl ()) := by
    intro m
    induction m with
    | zero =>
      intro hm hv
      have hs : srtB l = true := allN_iff.2 fun i hi => by
        by_cases h0 : i = 0
        · simp [h0]
        · exact hv i (by omega) hi
      rw [loop_out (r := .inr ()) (by unfold slices_IsSorted_string_L1; rw [if_neg (by simp)]), if_pos hs]
    | succ m ih =>
      intro hm hv
      have h1 : slices_IsSorted_string_L1 l ⟨((m + 1 : Nat) : Int)⟩ = some (if sLt (nth l (m + 1)) (nth l m) = true then .inr (.inl ()) else .inl ⟨(m : Int)⟩) := by
        unfold slices_IsSorted_string_L1
        have e : wI (((m + 1 : Nat) : Int) - 1) = (m : Int) := by rw [wI_id (by omega)]; omega
        simp only [e, Int.toNat_natCast]
        rw [if_pos (by simp), guard_pos (by omega), guard_pos (by omega), cmpLess_eq]
        simp only [Option.bind_some]
        split <;> rfl
      by_cases hc : sLt (nth l (m + 1)) (nth l m) = true
      · rw [if_pos hc] at h1
        have hs : ¬ srtB l = true := fun h => by
          have := allN_iff.1 h (m + 1) hm
          simp [hc] at this
        rw [loop_out h1, if_neg hs]
      · rw [if_neg hc] at h1
        rw [loop_on h1]
        exact ih (by omega) fun j hj hjl => by
          by_cases e : j = m + 1
          · subst e; simp at hc; simp [hc]
          · exact hv j (by omega) hjl
  unfold slices_IsSorted_string
  rcases Nat.eq_zero_or_pos l.length with h0 | h0
  · have hs : srtB l = true := allN_iff.2 fun i hi => by omega
    rw [h0]
    have e : wI (((0 : Nat) : Int) - 1) = -1 := by rw [wI_id (by omega)]; rfl
    rw [e, loop_out (r := .inr ()) (by unfold slices_IsSorted_string_L1; rw [if_neg (by decide)]), hs]
    rfl
  · have e : wI (((l.length : Nat) : Int) - 1) = ((l.length - 1 : Nat) : Int) := by rw [wI_id (by omega)]; omega
    rw [e, key (l.length - 1) (by omega) fun j hj hjl => by omega]
    cases srtB l <;> rfl

theorem okL_false (l : List ByteArray) : okL false l = ((decide (l.length ≤ 30) && l.all nameP) && dstB l) := by
  unfold okL dstB
  rw [← allN_nth l nameP, Bool.eq_iff_iff]
  simp only [Bool.and_eq_true, allN_iff, Bool.not_false, Bool.true_or, and_true, Bool.not_eq_true', ← Bool.not_eq_true, hasS_iff, decide_eq_true_eq]
  constructor
  · rintro ⟨h1, h2⟩
    refine ⟨⟨h1, fun i hi => (h2 i hi).1⟩, fun i hi hm => ?_⟩
    obtain ⟨k, hk, e⟩ := List.getElem_of_mem hm
    rw [List.length_take] at hk
    rw [← nth_eq (by rw [List.length_take]; omega), nth_take (by omega)] at e
    exact (h2 i hi).2 k (by omega) e
  · rintro ⟨⟨h1, h2⟩, h3⟩
    refine ⟨h1, fun i hi => ⟨h2 i hi, fun k hk e => h3 i hi ?_⟩⟩
    rw [← e, ← nth_take hk]
    exact nth_mem (by rw [List.length_take]; omega)
theorem okL_true (l : List ByteArray) : okL true l = (((decide (l.length ≤ 30) && l.all nameP) && srtB l) && dstB l) := by
  have e : okL true l = (okL false l && srtB l) := by
    unfold okL srtB
    rw [Bool.eq_iff_iff]
    simp only [Bool.and_eq_true, allN_iff, Bool.not_false, Bool.true_or, and_true, Bool.not_true, Bool.false_or, Bool.or_eq_true]
    constructor
    · rintro ⟨h1, h2⟩
      refine ⟨⟨h1, fun i hi => ⟨(h2 i hi).1, fun k hk => ((h2 i hi).2 k hk).1⟩⟩, fun i hi => ?_⟩
      by_cases h0 : i = 0
      · exact .inl (by simp [h0])
      · have := ((h2 i hi).2 (i - 1) (by omega)).2
        rw [decide_eq_true (by omega : i - 1 + 1 = i)] at this
        exact .inr (by simpa using this)
    · rintro ⟨⟨h1, h2⟩, h3⟩
      refine ⟨h1, fun i hi => ⟨(h2 i hi).1, fun k hk => ⟨(h2 i hi).2 k hk, ?_⟩⟩⟩
      by_cases h0 : k + 1 = i
      · have := h3 i hi
        subst h0
        simpa using this
      · exact .inl (by simp [h0])
  rw [e, okL_false]
  cases decide (l.length ≤ 30) <;> cases l.all nameP <;> cases dstB l <;> cases srtB l <;> rfl

def goodS (s : StateT) : Bool := decide (1 ≤ s.Next ∧ s.Next ≤ 1001) && decide (0 ≤ s.Done ∧ s.Done ≤ 1000) && decide (0 ≤ s.Status ∧ s.Status ≤ 2) && okL false s.Signals && okL true s.Timers &&
  (if s.Status = 0 then decide (s.Next = 1) && !s.Cancel && decide (s.Done = 0) && decide (s.Signals = []) && decide (s.Timers = []) else decide (1 < s.Next))
theorem len0 (l : List ByteArray) : (((l.length : Nat) : Int) == 0) = decide (l = []) := by
  cases l <;> simp
  omega
theorem spec_GoodState_eq (s : StateT) (h1 : ok_LS s.Signals) (h2 : ok_LS s.Timers) : spec_GoodState s = some (goodS s) := by
  unfold spec_GoodState goodS
  simp only [spec_l1In_eq, spec_l12Names_eq _ _ h1, spec_l12Names_eq _ _ h2, Option.bind_some, len0]
  generalize decide (1 ≤ s.Next ∧ s.Next ≤ 1001) = b1
  generalize decide (0 ≤ s.Done ∧ s.Done ≤ 1000) = b2
  generalize decide (0 ≤ s.Status ∧ s.Status ≤ 2) = b3
  generalize okL false s.Signals = b4
  generalize okL true s.Timers = b5
  cases b1 <;> cases b2 <;> cases b3 <;> cases b4 <;> cases b5 <;> simp
  by_cases h0 : s.Status = 0
  · by_cases hn : s.Next = 1
    · by_cases hd : s.Done = 0 <;> cases s.Cancel <;> by_cases hs : s.Signals = [] <;> simp [h0, hn, hd, hs]
    · simp [h0, hn]
  · simp [h0]
theorem impl_GoodState_eq (s : StateT) (h1 : s.Signals.length ≤ 9223372036854775807) (h2 : s.Timers.length ≤ 9223372036854775807) : impl_GoodState s = some (goodS s) := by
  unfold impl_GoodState goodS
  rw [okL_false, okL_true]
  simp only [impl_in_eq, impl_namesOk_eq _ h1, impl_namesOk_eq _ h2, impl_distinct_eq _ h1, impl_distinct_eq _ h2, impl_IsSorted_eq _ h2, Option.bind_some, len0]
  generalize decide (1 ≤ s.Next ∧ s.Next ≤ 1001) = b1
  generalize decide (0 ≤ s.Done ∧ s.Done ≤ 1000) = b2
  generalize decide (0 ≤ s.Status ∧ s.Status ≤ 2) = b3
  generalize (decide (s.Signals.length ≤ 30) && s.Signals.all nameP) = b4
  generalize (decide (s.Timers.length ≤ 30) && s.Timers.all nameP) = b5
  generalize dstB s.Signals = b6
  generalize dstB s.Timers = b7
  generalize srtB s.Timers = b8
  cases b1
  · simp
  cases b2
  · simp
  cases b3
  · simp
  cases b4
  · simp
  cases b6
  · simp
  cases b5
  · simp
  cases b8
  · simp
  cases b7
  · simp
  simp
  by_cases h0 : s.Status = 0
  · by_cases hn : s.Next = 1
    · by_cases hd : s.Done = 0 <;> cases s.Cancel <;> by_cases hs : s.Signals = [] <;> simp [h0, hn, hd, hs]
    · simp [h0, hn]
  · simp [h0]
end Go.TL

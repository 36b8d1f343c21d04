import Derived.Test.YtjhcfmcdllfmpaaDoorPpState
set_option linter.unusedSimpArgs false
set_option linter.unusedVariables false
set_option linter.unusedVariables false
set_option linter.unusedSimpArgs false
namespace Go.TL

theorem okL_len {r : Bool} {l : List ByteArray} (h : okL r l = true) : l.length ≤ 30 := by
  unfold okL at h
  simp only [Bool.and_eq_true, decide_eq_true_eq] at h
  exact h.1
theorem okL_mem {r : Bool} {l : List ByteArray} (h : okL r l = true) {x : ByteArray} (hx : x ∈ l) : x.size ≤ 12 := by
  unfold okL at h
  simp only [Bool.and_eq_true, allN_iff] at h
  obtain ⟨i, hi, rfl⟩ := List.getElem_of_mem hx
  have := (h.2 i hi).1
  rw [nth_eq hi] at this
  unfold nameP at this
  simp only [Bool.and_eq_true, decide_eq_true_eq] at this
  exact this.1
theorem okL_ok {r : Bool} {l : List ByteArray} (h : okL r l = true) : ok_LS l := by
  have := okL_len h
  exact ⟨by omega, fun y hy => by have := okL_mem h hy; show y.size ≤ _; omega⟩
theorem okL_asc {l : List ByteArray} (h : okL true l = true) : ∀ (j i : Nat), i < j → j < l.length → sLt (nth l i) (nth l j) = true := by
  unfold okL at h
  simp only [Bool.and_eq_true, allN_iff, Bool.not_true, Bool.false_or, Bool.or_eq_true, Bool.not_eq_true', decide_eq_false_iff_not] at h
  intro j
  induction j with
  | zero => intro i hi; omega
  | succ j ih =>
    intro i hi hj
    have hd := (h.2 (j + 1) hj).2 j (by omega)
    have hs : sLt (nth l j) (nth l (j + 1)) = true := by
      rcases sLt_tri (nth l j) (nth l (j + 1)) with h1 | h1 | h1
      · exact h1
      · exact absurd h1 hd.1
      · rcases hd.2 with h2 | h2
        · exact absurd rfl h2
        · rw [h2] at h1; cases h1
    by_cases e : i = j
    · rw [e]; exact hs
    · exact sLt_trans (ih i (by omega) (by omega)) hs

/-- A timer is set, or taken away. -/
def turnP (l : List ByteArray) (x : ByteArray) : List ByteArray :=
  if hasS l x = true then l.filter (fun y => !decide (y = x)) else l.takeWhile (fun y => sLt y x) ++ x :: l.dropWhile (fun y => sLt y x)

/-- The reference's way through the list. -/
def tfold (x : ByteArray) : List ByteArray → Bool → List ByteArray → Bool × List ByteArray
  | [], p, c => (p, c)
  | y :: r, p, c => if y = x then tfold x r p c else if (!p && sLt x y) = true then tfold x r true (c ++ [x] ++ [y]) else tfold x r p (c ++ [y])
set_option maxHeartbeats 1000000 in
theorem timer_loop (l : List ByteArray) (x : ByteArray) (hl : l.length ≤ 30) : ∀ (r : List ByteArray) (i : Nat) (p : Bool) (c : List ByteArray), l.drop i = r → i ≤ l.length → c.length ≤ 2 * i →
    loopF (spec_l12Timer_L1 l x) ⟨p, (i : Int), c⟩ = some ⟨(tfold x r p c).1, (tfold x r p c).2⟩ := by
  intro r
  induction r with
  | nil =>
    intro i p c hd hi hc
    have hi' : i = l.length := by
      have := congrArg List.length hd
      rw [List.length_drop, List.length_nil] at this
      omega
    subst hi'
    exact loop_out (by unfold spec_l12Timer_L1; rw [if_neg (by simp)]; rfl)
  | cons y r ih =>
    intro i p c hd hi hc
    have hlt : i < l.length := by
      have := congrArg List.length hd
      rw [List.length_drop, List.length_cons] at this
      omega
    have hy : nth l i = y := by
      rw [nth_eq hlt]
      have := List.drop_eq_getElem_cons hlt
      rw [hd] at this
      exact (List.cons.inj this).1.symm
    have hr : l.drop (i + 1) = r := by
      have := List.drop_eq_getElem_cons hlt
      rw [hd] at this
      exact (List.cons.inj this).2.symm
    have hstep : spec_l12Timer_L1 l x ⟨p, (i : Int), c⟩ = some (.inl (if y = x then ⟨p, ((i + 1 : Nat) : Int), c⟩ else if (!p && sLt x y) = true then ⟨true, ((i + 1 : Nat) : Int), c ++ [x] ++ [y]⟩ else ⟨p, ((i + 1 : Nat) : Int), c ++ [y]⟩)) := by
      unfold spec_l12Timer_L1
      have e1 : wI ((i : Int) + 1) = ((i + 1 : Nat) : Int) := by rw [wI_id (by omega)]; omega
      simp only [Int.toNat_natCast, hy, e1, sGt]
      rw [if_pos (by simp; omega), guard_pos (by omega), sEq]
      by_cases he : y = x
      · rw [if_pos (by simp [he]), if_pos he]
      · rw [if_neg (by simp [he]), if_neg he]
        have hg1 : (c.length + 1) * 16 ≤ 140737488355328 := by omega
        have hg2 : (c.length + 1 + 1) * 16 ≤ 140737488355328 := by omega
        cases p
        · cases h : sLt x y
          · simp [guard_pos hg1]
          · simp [guard_pos hg1, guard_pos hg2]
        · simp [guard_pos hg1]
    rw [loop_on hstep]
    unfold tfold
    by_cases he : y = x
    · rw [if_pos he, if_pos he]; exact ih (i + 1) p c hr (by omega) (by omega)
    · rw [if_neg he, if_neg he]
      split
      · exact ih (i + 1) true _ hr (by omega) (by simp only [List.length_append, List.length_singleton]; omega)
      · exact ih (i + 1) p _ hr (by omega) (by simp only [List.length_append, List.length_singleton]; omega)
theorem tfold_true (x : ByteArray) : ∀ (r c : List ByteArray), tfold x r true c = (true, c ++ r.filter fun y => !decide (y = x))
  | [], c => by simp [tfold]
  | y :: r, c => by
    unfold tfold
    by_cases he : y = x
    · rw [if_pos he, tfold_true x r c]; simp [he]
    · rw [if_neg he, if_neg (by simp), tfold_true x r]; simp [he]
theorem filter_ne {x : ByteArray} {r : List ByteArray} (h : x ∉ r) : (r.filter fun y => !decide (y = x)) = r := by
  rw [List.filter_eq_self]
  intro y hy
  simp only [Bool.not_eq_true', decide_eq_false_iff_not]
  intro e; subst e; exact h hy
theorem tfold_false (x : ByteArray) : ∀ (r c : List ByteArray), x ∉ r →
    (if (!(tfold x r false c).1) = true then (tfold x r false c).2 ++ [x] else (tfold x r false c).2) = c ++ (r.takeWhile (fun y => sLt y x) ++ x :: r.dropWhile fun y => sLt y x)
  | [], c, _ => by simp [tfold]
  | y :: r, c, h => by
    have hne : y ≠ x := fun e => h (by simp [e])
    have hr : x ∉ r := fun e => h (List.mem_cons_of_mem _ e)
    unfold tfold
    rw [if_neg hne]
    rcases sLt_tri y x with h1 | h1 | h1
    · have h2 := sLt_asym h1
      have e : (!false && sLt x y) = false := by simp [h2]
      simp only [e, Bool.false_eq_true, if_false]
      rw [tfold_false x r (c ++ [y]) hr]
      simp [h1]
    · exact absurd h1 hne
    · have h2 := sLt_asym h1
      have e : (!false && sLt x y) = true := by simp [h1]
      simp only [e, if_true]
      rw [tfold_true, filter_ne hr]
      simp [h2]
theorem tfold_len (x : ByteArray) : ∀ (r c : List ByteArray) (p : Bool), (tfold x r p c).2.length ≤ c.length + 2 * r.length
  | [], c, p => by simp [tfold]
  | y :: r, c, p => by
    unfold tfold
    split
    · have := tfold_len x r c p; simp only [List.length_cons]; omega
    · split
      · have := tfold_len x r (c ++ [x] ++ [y]) true; simp only [List.length_cons, List.length_append, List.length_nil] at this ⊢; omega
      · have := tfold_len x r (c ++ [y]) p; simp only [List.length_cons, List.length_append, List.length_nil] at this ⊢; omega
theorem spec_l12Timer_eq (l : List ByteArray) (x : ByteArray) (hl : l.length ≤ 30) : spec_l12Timer l x = some (turnP l x) := by
  unfold spec_l12Timer turnP
  obtain ⟨k, hk, hp⟩ := spec_l12At_ge l x (by omega)
  rw [hk]
  simp only [Option.bind_some]
  rw [hp]
  have := timer_loop l x hl l 0 (hasS l x) [] rfl (by omega) (by simp)
  rw [show ((0 : Nat) : Int) = 0 from rfl] at this
  rw [this]
  simp only [Option.bind_some]
  have hlen := tfold_len x l [] (hasS l x)
  simp only [List.length_nil, Nat.zero_add] at hlen
  rw [guard_pos (by omega)]
  cases h : hasS l x
  · have hm : x ∉ l := fun e => by rw [hasS_iff.2 e] at h; cases h
    have := tfold_false x l [] hm
    simp only [List.nil_append] at this
    simp only [Bool.false_eq_true, if_false]
    rw [← this]
    split <;> rfl
  · rw [tfold_true]
    simp

/-- The program's search. -/
theorem half_eq {a b : Nat} (h : a + b ≤ 100) : wI (shR 64 (wU (wI ((a : Int) + (b : Int)))) 1) = (((a + b) / 2 : Nat) : Int) := by
  have e0 : wI ((a : Int) + (b : Int)) = (a : Int) + (b : Int) := wI_id (by omega)
  have e1 : wU ((a : Int) + (b : Int)) = (a : Int) + (b : Int) := wU_id (by omega)
  rw [e0, e1]
  unfold shR
  have e : (min (1 : Int).toNat 64) = 1 := rfl
  rw [e]
  have : (((a : Int) + (b : Int)).fdiv (2 ^ 1)) = (((a + b) / 2 : Nat) : Int) := by
    rw [Int.fdiv_eq_ediv_of_nonneg _ (by decide)]
    omega
  rw [this, wI_id (by omega)]
theorem search_loop (l : List ByteArray) (x : ByteArray) (hl : l.length ≤ 30) (hs : okL true l = true) : ∀ (n lo hi : Nat), hi - lo = n → lo ≤ hi → hi ≤ l.length → (∀ j, j < lo → sLt (nth l j) x = true) → (∀ j, hi ≤ j → j < l.length → sLt (nth l j) x = false) →
    ∃ k : Nat, loopF (slices_BinarySearch_string_L1 l x) ⟨(lo : Int), (hi : Int)⟩ = some ⟨(k : Int)⟩ ∧ k ≤ l.length ∧ (∀ j : Nat, j < k → sLt (nth l j) x = true) ∧ ∀ j, k ≤ j → j < l.length → sLt (nth l j) x = false := by
  intro n
  induction n using Nat.strongRecOn with
  | _ n ih =>
    intro lo hi hn hle hhi h1 h2
    by_cases hlt : lo < hi
    · have hstep : slices_BinarySearch_string_L1 l x ⟨(lo : Int), (hi : Int)⟩ = some (.inl (if sLt (nth l ((lo + hi) / 2)) x = true then ⟨(((lo + hi) / 2 + 1 : Nat) : Int), (hi : Int)⟩ else ⟨(lo : Int), (((lo + hi) / 2 : Nat) : Int)⟩)) := by
        unfold slices_BinarySearch_string_L1
        simp only [half_eq (show lo + hi ≤ 100 by omega), Int.toNat_natCast]
        rw [if_pos (by simp; omega), guard_pos (by omega), cmpLess_eq]
        simp only [Option.bind_some]
        rw [wI_id (n := (((lo + hi) / 2 : Nat) : Int) + 1) (by omega)]
        split <;> rfl
      have hmid : (lo + hi) / 2 < l.length := by omega
      rw [loop_on hstep]
      by_cases hc : sLt (nth l ((lo + hi) / 2)) x = true
      · rw [if_pos hc]
        refine ih _ (by omega) ((lo + hi) / 2 + 1) hi rfl (by omega) hhi (fun j hj => ?_) h2
        by_cases e : j = (lo + hi) / 2
        · rw [e]; exact hc
        · exact sLt_trans (okL_asc hs _ j (by omega) hmid) hc
      · rw [if_neg hc]
        refine ih _ (by omega) lo ((lo + hi) / 2) rfl (by omega) (by omega) h1 (fun j hj hjl => ?_)
        by_cases e : j = (lo + hi) / 2
        · rw [e]; simpa using hc
        · cases h : sLt (nth l j) x with
          | false => rfl
          | true => exact absurd (sLt_trans (okL_asc hs j ((lo + hi) / 2) (by omega) hjl) h) hc
    · have e : lo = hi := by omega
      subst e
      refine ⟨lo, loop_out ?_, hhi, h1, h2⟩
      unfold slices_BinarySearch_string_L1
      rw [if_neg (by simp)]
theorem take_while {p : ByteArray → Bool} : ∀ {l : List ByteArray} {k : Nat}, k ≤ l.length → (∀ j, j < k → p (nth l j) = true) → (∀ j, k ≤ j → j < l.length → p (nth l j) = false) → l.takeWhile p = l.take k ∧ l.dropWhile p = l.drop k
  | [], k, hk, h1, h2 => by simp
  | y :: r, 0, hk, h1, h2 => by
    have := h2 0 (by omega) (by simp)
    have e : nth (y :: r) 0 = y := rfl
    rw [e] at this
    simp [this]
  | y :: r, k + 1, hk, h1, h2 => by
    have := h1 0 (by omega)
    have e : nth (y :: r) 0 = y := rfl
    rw [e] at this
    obtain ⟨h3, h4⟩ := take_while (p := p) (l := r) (k := k) (by simpa using hk) (fun j hj => h1 (j + 1) (by omega)) (fun j hj hl => h2 (j + 1) (by omega) (by simpa using hl))
    simp [this, h3, h4]
theorem search_eq (l : List ByteArray) (x : ByteArray) (hs : okL true l = true) : ∃ k : Nat, slices_BinarySearch_string l x = some ((k : Int), hasS l x) ∧ k ≤ l.length ∧ (hasS l x = true → k < l.length) ∧
    turnP l x = if hasS l x = true then l.take k ++ l.drop (k + 1) else l.take k ++ [x] ++ l.drop k := by
  have hl := okL_len hs
  obtain ⟨k, hk, hkl, h1, h2⟩ := search_loop l x hl hs l.length 0 l.length (by omega) (by omega) (Nat.le_refl _) (fun j hj => by omega) (fun j hj hj2 => by omega)
  obtain ⟨e1, e2⟩ := take_while (p := fun y => sLt y x) hkl h1 h2
  have hx : hasS l x = true ↔ k < l.length ∧ nth l k = x := by
    rw [hasS_iff]
    constructor
    · intro hm
      obtain ⟨m, hm1, rfl⟩ := List.getElem_of_mem hm
      have hnm : nth l m = l[m] := nth_eq hm1
      have hmk : k ≤ m := by
        rcases Nat.lt_or_ge m k with h | h
        · have := h1 m h; rw [hnm, sLt_irrefl] at this; cases this
        · exact h
      have : k = m := by
        rcases Nat.lt_or_ge k m with h | h
        · have h3 := okL_asc hs m k h hm1
          rw [hnm] at h3
          have h4 := h2 k (Nat.le_refl _) (by omega)
          rw [h4] at h3; cases h3
        · omega
      subst this
      exact ⟨hm1, hnm⟩
    · rintro ⟨h3, h4⟩
      rw [← h4]; exact nth_mem h3
  refine ⟨k, ?_, hkl, fun h => (hx.1 h).1, ?_⟩
  · unfold slices_BinarySearch_string
    rw [show (0 : Int) = ((0 : Nat) : Int) from rfl, hk]
    simp only [Option.bind_some, Int.toNat_natCast]
    by_cases h3 : k < l.length
    · rw [if_pos (by simp; omega), guard_pos (by omega), sEq]
      by_cases h4 : nth l k = x
      · rw [if_pos (by simp [h4]), hx.2 ⟨h3, h4⟩]
      · rw [if_neg (by simp [h4]), guard_pos (by omega)]
        have hf : hasS l x = false := by
          cases h : hasS l x with
          | false => rfl
          | true => exact absurd (hx.1 h).2 h4
        unfold slices_isNaN_string
        simp [hf]
    · rw [if_neg (by simp; omega)]
      have hf : hasS l x = false := by
        cases h : hasS l x with
        | false => rfl
        | true => exact absurd (hx.1 h).1 h3
      rw [hf]
  · unfold turnP
    by_cases h : hasS l x = true
    · rw [if_pos h, if_pos h]
      obtain ⟨h3, h4⟩ := hx.1 h
      have hl2 : l = l.take k ++ x :: l.drop (k + 1) := by
        rw [nth_eq h3] at h4
        conv => lhs; rw [← List.take_append_drop k l, List.drop_eq_getElem_cons h3, h4]
      have hn1 : x ∉ l.take k := fun hm => by
        obtain ⟨j, hj, e⟩ := List.getElem_of_mem hm
        rw [List.length_take] at hj
        rw [← nth_eq (by rw [List.length_take]; omega), nth_take (by omega)] at e
        have := h1 j (by omega)
        rw [e, sLt_irrefl] at this; cases this
      have hn2 : x ∉ l.drop (k + 1) := fun hm => by
        obtain ⟨j, hj, e⟩ := List.getElem_of_mem hm
        rw [List.length_drop] at hj
        rw [List.getElem_drop, ← nth_eq (by omega)] at e
        have := okL_asc hs (k + 1 + j) k (by omega) (by omega)
        rw [e, h4, sLt_irrefl] at this; cases this
      conv => lhs; rw [hl2]
      rw [List.filter_append, List.filter_cons_of_neg (by simp), filter_ne hn1, filter_ne hn2]
    · rw [if_neg h, if_neg h, e1, e2, List.append_assoc, List.singleton_append]
end Go.TL

import Derived.Test.YtmmhgioeoikgbaaTlT3
set_option linter.unusedSimpArgs false
set_option linter.unusedVariables false
namespace Go.TL.Ytmmhgioeoikgbaa
open Go Go.Proofs Go.TL
set_option maxRecDepth 8000
set_option maxHeartbeats 0
theorem getD_some_ {α : Type} {l : List α} {n : Nat} {d : α} (h : n < l.length) : l.getD n d = l[n] := by simp [List.getD, h]
def playAt (b : Brk) (l : List Cal) : Nat → Brk × List Bool
  | 0 => (b, [])
  | i + 1 => ((callB (playAt b l i).1 (nth l i).now (nth l i).fine).1, (playAt b l i).2 ++ [(callB (playAt b l i).1 (nth l i).now (nth l i).fine).2])
def okAt (l : List Cal) (i : Nat) : Bool := okV (nth l i).now && (decide (i = 0) || decide ((nth l (i - 1)).now ≤ (nth l i).now))
def newB (lim cool : Int) : Bool := inn lim 1 20 && inn cool 1 10000
def brk0 (lim cool : Int) : Brk := if newB lim cool = true then ⟨lim, cool, 0, 0, 0⟩ else zeroB
def okPlay (lim cool : Int) (l : List Cal) : Bool := newB lim cool && (decide (l.length ≤ 120) && (List.range l.length).all (okAt l))
def playO (lim cool : Int) (l : List Cal) : Brk × List Bool × Bool := if okPlay lim cool l = true then ((playAt (brk0 lim cool) l l.length).1, (playAt (brk0 lim cool) l l.length).2, true) else (zeroB, [], false)
theorem playAt_len (b : Brk) (l : List Cal) : ∀ i, (playAt b l i).2.length = i
  | 0 => rfl
  | i + 1 => by simp [playAt, playAt_len b l i]
theorem callB_good {b : Brk} {now : Int} {fine : Bool} (hb : goodB b = true) (hn : okV now = true) : goodB (callB b now fine).1 = true := by
  rw [goodB_iff] at hb ⊢
  rw [okV_iff] at hn
  obtain ⟨h1, h2, h3, h4, h5, h6, h7⟩ := hb
  unfold callB GoodB
  split
  · exact ⟨h1, h2, h3, h4, h5, h6, h7⟩
  · split
    · refine ⟨?_, ?_, ?_, ?_, ?_, fun h => ?_, fun h => ?_⟩ <;> simp_all <;> omega
    · split
      · split <;> (refine ⟨?_, ?_, ?_, ?_, ?_, fun h => ?_, fun h => ?_⟩ <;> simp_all <;> omega)
      · refine ⟨?_, ?_, ?_, ?_, ?_, fun h => ?_, fun h => ?_⟩ <;> simp_all <;> omega
theorem playAt_good {b : Brk} {l : List Cal} (hb : goodB b = true) : ∀ i, (∀ j, j < i → okAt l j = true) → goodB (playAt b l i).1 = true
  | 0, _ => hb
  | i + 1, h => callB_good (playAt_good hb i fun j hj => h j (by omega)) (by have := h i (by omega); unfold okAt at this; simp only [Bool.and_eq_true] at this; exact this.1)
theorem brk0_good {lim cool : Int} (h : newB lim cool = true) : goodB (brk0 lim cool) = true := by
  unfold brk0
  rw [if_pos h]
  unfold newB inn at h
  simp only [Bool.and_eq_true, decide_eq_true_eq] at h
  rw [goodB_iff]
  unfold GoodB
  refine ⟨?_, ?_, ?_, ?_, ?_, fun h => ?_, fun h => ?_⟩ <;> simp_all <;> omega
theorem playO_ok {lim cool : Int} {l : List Cal} {i : Nat} (h1 : newB lim cool = true) (h2 : l.length ≤ 120) (h3 : ∀ j, j < i → okAt l j = true) (h4 : l.length ≤ i) : playO lim cool l = ((playAt (brk0 lim cool) l l.length).1, (playAt (brk0 lim cool) l l.length).2, true) := by
  have : okPlay lim cool l = true := by
    unfold okPlay
    simp only [h1, h2, decide_true, Bool.true_and, List.all_eq_true, List.mem_range]
    exact fun j hj => h3 j (by omega)
  unfold playO
  rw [if_pos this]
theorem playO_no {lim cool : Int} {l : List Cal} (h : newB lim cool = false ∨ 120 < l.length ∨ ∃ j, j < l.length ∧ okAt l j = false) : playO lim cool l = (zeroB, [], false) := by
  have : ¬ okPlay lim cool l = true := by
    unfold okPlay
    simp only [Bool.and_eq_true, decide_eq_true_eq, List.all_eq_true, List.mem_range]
    rintro ⟨h1, h2, h3⟩
    rcases h with h | h | ⟨j, hj, h⟩
    · rw [h] at h1; cases h1
    · omega
    · rw [h3 j hj] at h; cases h
  unfold playO
  rw [if_neg this]
theorem f85 (lim cool : Int) : Fn Try.prog 85 [I lim, I cool] [] 0 (.tu [.ag (brkL (brk0 lim cool)), B (newB lim cool)]) [] 1 := by
  refine fn_code tab_ok mixed [(1000, [(0, 0), (1, 0), (4, 0)]), (1001, [(0, 0), (1, 0), (4, 0), (13, 0)]), (1002, [(4, 0), (5, 0)]), (1003, [(4, 0), (5, 0)])] Try.func85 rfl rfl (by simp [Try.f85]) (by kernel_rfl) ?_
  simp only [Try.f85]
  repeat' first | (simp only [go_sem, Nat.reduceMul, Nat.reduceAdd, Nat.reduceSub, Nat.reduceEqDiff, ↓reduceIte, Nat.reduceLT, reduceCtorEq, Nat.reduceLeDiff, Int.reduceEq, Int.reduceLT, Int.reduceLE, Nat.reduceBEq, Nat.reducePow, Int.reduceToNat]) | refine And.intro ?_ ?_ | refine Cl_use0 (f65 _ _ _) rfl (.inl rfl) ?_ | refine ends_same ?_ | (refine Bs_split ?_ ?_ <;> intro hh <;> (try simp only [beq_eq_false_iff_ne, ne_eq, Decidable.not_not, Bool.and_eq_true, Bool.or_eq_true, Bool.and_eq_false_iff, Bool.or_eq_false_iff, decide_eq_true_eq, decide_eq_false_iff_not, Bool.not_eq_true', Bool.not_eq_false', Bool.not_eq_true, Int.not_le, Int.not_lt, bne_iff_ne, beq_iff_eq, List.length_map] at hh)) | (refine Sp_split ?_ ?_ <;> intro hh <;> (try simp only [beq_eq_false_iff_ne, ne_eq, Decidable.not_not, Bool.and_eq_true, Bool.or_eq_true, Bool.and_eq_false_iff, Bool.or_eq_false_iff, decide_eq_true_eq, decide_eq_false_iff_not, Bool.not_eq_true', Bool.not_eq_false', Bool.not_eq_true, Int.not_le, Int.not_lt, bne_iff_ne, beq_iff_eq, List.length_map] at hh))
  all_goals ((try intros); (try simp only [beq_eq_false_iff_ne, ne_eq, Decidable.not_not, Bool.and_eq_true, Bool.or_eq_true, Bool.and_eq_false_iff, Bool.or_eq_false_iff, decide_eq_true_eq, decide_eq_false_iff_not, Bool.not_eq_true', Bool.not_eq_false', Bool.not_eq_true, Int.not_le, Int.not_lt, bne_iff_ne, beq_iff_eq, brk0, newB, inn, zeroB] at *); (try simp (disch := omega) only [w64, true_and, and_true] at *); first | omega | assumption | rfl | (refine leaf_int ?_; omega) | (simp_all [brk0, newB, inn, zeroB]; done) | (simp_all [brk0, newB, inn, zeroB]; omega) | (simp (disch := omega) [dt, df, if_pos, if_neg, brk0, newB, inn, zeroB]; done) | (simp (disch := omega) [dt, df, if_pos, if_neg, *, brk0, newB, inn, zeroB]; done) | ((repeat' split) <;> (try simp_all [brk0, newB, inn, zeroB]) <;> (try omega) <;> done))
theorem f86 (lim cool : Int) : Fn Try.prog 86 [I lim, I cool] [] 0 (.tu [.ag (brkL (brk0 lim cool)), B (newB lim cool)]) [] 3 := by
  refine fn_code tab_ok mixed [(1000, [(0, 0), (1, 0), (4, 0)]), (1001, [(4, 0), (6, 0)]), (1002, [(4, 0), (6, 0), (12, 0)]), (1003, [(4, 0), (5, 0)]), (1004, [(4, 0), (5, 0)])] Try.func86 rfl rfl (by simp [Try.f86]) (by kernel_rfl) ?_
  simp only [Try.f86]
  repeat' first | (simp only [go_sem, Nat.reduceMul, Nat.reduceAdd, Nat.reduceSub, Nat.reduceEqDiff, ↓reduceIte, Nat.reduceLT, reduceCtorEq, Nat.reduceLeDiff, Int.reduceEq, Int.reduceLT, Int.reduceLE, Nat.reduceBEq, Nat.reducePow, Int.reduceToNat]) | refine And.intro ?_ ?_ | refine Cl_own (ids := []) (f53 ⟨lim, cool, 0, 0, 0⟩) rfl rfl (by decide) rfl rfl ?_ | refine ends_same ?_ | (refine Bs_split ?_ ?_ <;> intro hh <;> (try simp only [beq_eq_false_iff_ne, ne_eq, Decidable.not_not, Bool.and_eq_true, Bool.or_eq_true, Bool.and_eq_false_iff, Bool.or_eq_false_iff, decide_eq_true_eq, decide_eq_false_iff_not, Bool.not_eq_true', Bool.not_eq_false', Bool.not_eq_true, Int.not_le, Int.not_lt, bne_iff_ne, beq_iff_eq, List.length_map] at hh)) | (refine Sp_split ?_ ?_ <;> intro hh <;> (try simp only [beq_eq_false_iff_ne, ne_eq, Decidable.not_not, Bool.and_eq_true, Bool.or_eq_true, Bool.and_eq_false_iff, Bool.or_eq_false_iff, decide_eq_true_eq, decide_eq_false_iff_not, Bool.not_eq_true', Bool.not_eq_false', Bool.not_eq_true, Int.not_le, Int.not_lt, bne_iff_ne, beq_iff_eq, List.length_map] at hh))
  all_goals ((try intros); (try simp only [beq_eq_false_iff_ne, ne_eq, Decidable.not_not, Bool.and_eq_true, Bool.or_eq_true, Bool.and_eq_false_iff, Bool.or_eq_false_iff, decide_eq_true_eq, decide_eq_false_iff_not, Bool.not_eq_true', Bool.not_eq_false', Bool.not_eq_true, Int.not_le, Int.not_lt, bne_iff_ne, beq_iff_eq, brk0, newB, inn, zeroB, goodB] at *); (try simp (disch := omega) only [w64, true_and, and_true] at *); first | omega | assumption | rfl | (refine leaf_int ?_; omega) | (simp_all [brk0, newB, inn, zeroB, goodB]; done) | (simp_all [brk0, newB, inn, zeroB, goodB]; omega) | (simp (disch := omega) [dt, df, if_pos, if_neg, brk0, newB, inn, zeroB, goodB]; done) | (simp (disch := omega) [dt, df, if_pos, if_neg, *, brk0, newB, inn, zeroB, goodB]; done) | ((repeat' split) <;> (try simp_all [brk0, newB, inn, zeroB, goodB]) <;> (try omega) <;> done))
end Go.TL.Ytmmhgioeoikgbaa

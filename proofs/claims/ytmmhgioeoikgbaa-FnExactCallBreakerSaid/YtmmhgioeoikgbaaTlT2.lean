import Derived.Test.YtmmhgioeoikgbaaTlT1
set_option linter.unusedSimpArgs false
set_option linter.unusedVariables false
namespace Go.TL.Ytmmhgioeoikgbaa
open Go Go.Proofs Go.TL
set_option maxRecDepth 8000
structure Brk where
  L : Int
  C : Int
  S : Int
  F : Int
  O : Int
  deriving DecidableEq
theorem dt {p : Prop} [Decidable p] (h : p) : decide p = true := decide_eq_true h
theorem df {p : Prop} [Decidable p] (h : ¬ p) : decide p = false := decide_eq_false h
structure Cal where
  now : Int
  fine : Bool
  deriving DecidableEq
abbrev brkL (b : Brk) : List LV := [I b.L, I b.C, I b.S, I b.F, I b.O]
def inn (a b c : Int) : Bool := decide (b ≤ a) && decide (a ≤ c)
def goodB (b : Brk) : Bool := inn b.L 1 20 && inn b.C 1 10000 && inn b.S 0 2 && inn b.F 0 b.L && inn b.O 0 1000000 && (if b.S = 0 then decide (b.F < b.L) && decide (b.O = 0) else decide (b.F = b.L))
def GoodB (b : Brk) : Prop := (1 ≤ b.L ∧ b.L ≤ 20) ∧ (1 ≤ b.C ∧ b.C ≤ 10000) ∧ (0 ≤ b.S ∧ b.S ≤ 2) ∧ (0 ≤ b.F ∧ b.F ≤ b.L) ∧ (0 ≤ b.O ∧ b.O ≤ 1000000) ∧ (b.S = 0 → b.F < b.L ∧ b.O = 0) ∧ (b.S ≠ 0 → b.F = b.L)
theorem goodB_iff (b : Brk) : goodB b = true ↔ GoodB b := by
  unfold goodB GoodB inn
  by_cases h : b.S = 0
  · simp only [h, if_true, Bool.and_eq_true, decide_eq_true_eq]; constructor <;> intro h <;> simp_all <;> omega
  · simp only [h, if_false, Bool.and_eq_true, decide_eq_true_eq]; constructor <;> intro h <;> simp_all <;> omega
def callB (b : Brk) (now : Int) (fine : Bool) : Brk × Bool :=
  if b.S = 1 ∧ now < b.O + b.C then (b, false)
  else if fine = true then (⟨b.L, b.C, 0, 0, 0⟩, true)
  else if b.S = 0 then (if b.F + 1 = b.L then (⟨b.L, b.C, 1, b.F + 1, now⟩, true) else (⟨b.L, b.C, b.S, b.F + 1, b.O⟩, true))
  else (⟨b.L, b.C, 1, b.F, now⟩, true)
def zeroB : Brk := ⟨0, 0, 0, 0, 0⟩
def callO (b : Brk) (now : Int) (fine : Bool) : Brk × Bool × Bool :=
  if goodB b = true ∧ okV now = true then ((callB b now fine).1, (callB b now fine).2, true) else (zeroB, false, false)
theorem f24 (b : Brk) : Fn Try.prog 24 [.ag (brkL b)] [] 0 (.ag (brkL b)) [] 3 := by
  refine fn_code tab_ok mixed [] Try.func24 rfl rfl (by simp [Try.f24]) (by kernel_rfl) ?_
  simp only [Try.f24]
  repeat' first | (simp only [go_sem, Nat.reduceMul, Nat.reduceAdd, Nat.reduceSub, Nat.reduceEqDiff, reduceIte, Nat.reduceLT, reduceCtorEq, Nat.reduceLeDiff, Int.reduceEq, Int.reduceLT, Int.reduceLE, Nat.reduceBEq, Nat.reducePow, Int.reduceToNat]) | refine And.intro ?_ ?_ | (refine Bs_split ?_ ?_ <;> intro _) | (refine Sp_split ?_ ?_ <;> intro _)
theorem f25 (now : Int) (fine : Bool) : Fn Try.prog 25 [.ag [I now, B fine]] [] 0 (.ag [I now, B fine]) [] 3 := by
  refine fn_code tab_ok mixed [] Try.func25 rfl rfl (by simp [Try.f25]) (by kernel_rfl) ?_
  simp only [Try.f25]
  repeat' first | (simp only [go_sem, Nat.reduceMul, Nat.reduceAdd, Nat.reduceSub, Nat.reduceEqDiff, reduceIte, Nat.reduceLT, reduceCtorEq, Nat.reduceLeDiff, Int.reduceEq, Int.reduceLT, Int.reduceLE, Nat.reduceBEq, Nat.reducePow, Int.reduceToNat]) | refine And.intro ?_ ?_ | (refine Bs_split ?_ ?_ <;> intro _) | (refine Sp_split ?_ ?_ <;> intro _)
theorem f27 (a b : Brk) : Fn Try.prog 27 [.ag (brkL a), .ag (brkL b)] [] 0 (B (decide (a = b))) [] 2 := by
  refine fn_code tab_ok mixed [] Try.func27 rfl rfl (by simp [Try.f27]) (by kernel_rfl) ?_
  simp only [Try.f27]
  cases a; cases b
  repeat' first | (simp only [go_sem, Nat.reduceMul, Nat.reduceAdd, Nat.reduceSub, Nat.reduceEqDiff, reduceIte, Nat.reduceLT, reduceCtorEq, Nat.reduceLeDiff, Int.reduceEq, Int.reduceLT, Int.reduceLE, Nat.reduceBEq, Nat.reducePow, Int.reduceToNat]) | refine And.intro ?_ ?_ | (refine Bs_split ?_ ?_ <;> intro _) | (refine Sp_split ?_ ?_ <;> intro _)
  all_goals ((try intros); (try simp only [Bool.and_eq_true, Bool.or_eq_true, Bool.and_eq_false_iff, Bool.or_eq_false_iff, decide_eq_true_eq, decide_eq_false_iff_not, Bool.not_eq_true', Bool.not_eq_false', Bool.not_eq_true, Int.not_le, Int.not_lt, bne_iff_ne, beq_iff_eq, Brk.mk.injEq] at *); (try simp (disch := omega) only [w64, true_and, and_true] at *); first | omega | assumption | rfl | (simp_all [Brk.mk.injEq]; done) | (simp_all [Brk.mk.injEq]; omega) | (simp (disch := omega) [dt, df, if_pos, if_neg, Brk.mk.injEq]; done) | (simp (disch := omega) [dt, df, if_pos, if_neg, *, Brk.mk.injEq]; done) | ((repeat' split) <;> (try simp_all [Brk.mk.injEq]) <;> (try omega) <;> done))
theorem f73 (v : Int) : Fn Try.prog 73 [I v] [] 0 (B (okV v)) [] 0 := by
  refine fn_code tab_ok mixed [] Try.func73 rfl rfl (by simp [Try.f73]) (by kernel_rfl) ?_
  simp only [Try.f73]
  repeat' first | (simp only [go_sem, Nat.reduceMul, Nat.reduceAdd, Nat.reduceSub, Nat.reduceEqDiff, reduceIte, Nat.reduceLT, reduceCtorEq, Nat.reduceLeDiff, Int.reduceEq, Int.reduceLT, Int.reduceLE, Nat.reduceBEq, Nat.reducePow, Int.reduceToNat]) | refine And.intro ?_ ?_ | refine Cl_use0 (f75 _ _ _) rfl (.inl rfl) ?_ | (refine Bs_split ?_ ?_ <;> intro _) | (refine Sp_split ?_ ?_ <;> intro _)
  rfl
theorem f71 (b : Brk) : Fn Try.prog 71 [.ag (brkL b)] [] 0 (B (goodB b)) [] 1 := by
  refine fn_code tab_ok mixed [] Try.func71 rfl rfl (by simp [Try.f71]) (by kernel_rfl) ?_
  simp only [Try.f71]
  repeat' first | (simp only [go_sem, Nat.reduceMul, Nat.reduceAdd, Nat.reduceSub, Nat.reduceEqDiff, reduceIte, Nat.reduceLT, reduceCtorEq, Nat.reduceLeDiff, Int.reduceEq, Int.reduceLT, Int.reduceLE, Nat.reduceBEq, Nat.reducePow, Int.reduceToNat]) | refine And.intro ?_ ?_ | refine Cl_use0 (f65 _ _ _) rfl (.inl rfl) ?_ | (refine Bs_split ?_ ?_ <;> intro _) | (refine Sp_split ?_ ?_ <;> intro _)
  all_goals ((try intros); (try simp only [Bool.and_eq_true, Bool.or_eq_true, Bool.and_eq_false_iff, Bool.or_eq_false_iff, decide_eq_true_eq, decide_eq_false_iff_not, Bool.not_eq_true', Bool.not_eq_false', Bool.not_eq_true, Int.not_le, Int.not_lt, bne_iff_ne, beq_iff_eq, goodB, inn] at *); (try simp (disch := omega) only [w64, true_and, and_true] at *); first | omega | assumption | rfl | (simp_all [goodB, inn]; done) | (simp_all [goodB, inn]; omega) | (simp (disch := omega) [dt, df, if_pos, if_neg, goodB, inn]; done) | (simp (disch := omega) [dt, df, if_pos, if_neg, *, goodB, inn]; done) | ((repeat' split) <;> (try simp_all [goodB, inn]) <;> (try omega) <;> done))
theorem f53 (b : Brk) : Fn Try.prog 53 [.ag (brkL b)] [] 0 (B (goodB b)) [] 1 := by
  refine fn_code tab_ok mixed [] Try.func53 rfl rfl (by simp [Try.f53]) (by kernel_rfl) ?_
  simp only [Try.f53]
  repeat' first | (simp only [go_sem, Nat.reduceMul, Nat.reduceAdd, Nat.reduceSub, Nat.reduceEqDiff, reduceIte, Nat.reduceLT, reduceCtorEq, Nat.reduceLeDiff, Int.reduceEq, Int.reduceLT, Int.reduceLE, Nat.reduceBEq, Nat.reducePow, Int.reduceToNat]) | refine And.intro ?_ ?_ | refine Cl_use0 (f75 _ _ _) rfl (.inl rfl) ?_ | refine Cl_use0 (f73 _) rfl (.inl rfl) ?_ | (refine Bs_split ?_ ?_ <;> intro _) | (refine Sp_split ?_ ?_ <;> intro _)
  all_goals ((try intros); (try simp only [Bool.and_eq_true, Bool.or_eq_true, Bool.and_eq_false_iff, Bool.or_eq_false_iff, decide_eq_true_eq, decide_eq_false_iff_not, Bool.not_eq_true', Bool.not_eq_false', Bool.not_eq_true, Int.not_le, Int.not_lt, bne_iff_ne, beq_iff_eq, goodB, inn, okV] at *); (try simp (disch := omega) only [w64, true_and, and_true] at *); first | omega | assumption | rfl | (simp_all [goodB, inn, okV]; done) | (simp_all [goodB, inn, okV]; omega) | (simp (disch := omega) [dt, df, if_pos, if_neg, goodB, inn, okV]; done) | (simp (disch := omega) [dt, df, if_pos, if_neg, *, goodB, inn, okV]; done) | ((repeat' split) <;> (try simp_all [goodB, inn, okV]) <;> (try omega) <;> done))
theorem f100 (fr : Bool) (b : Brk) (now : Int) (hb : goodB b = true) : Fn Try.prog 100 [.pb 0 0, I now] [(0, some (fr, .box (brkL b)))] 1 (B (decide (b.S ≠ 1) || decide (b.O + b.C ≤ now))) [(0, some (fr, .box (brkL b)))] 1 := by
  obtain ⟨h1, h2, h3, h4, h5, h6, h7⟩ := (goodB_iff b).1 hb
  refine fn_code tab_ok mixed [] Try.func100 rfl rfl (by simp [Try.f100]) (by kernel_rfl) ?_
  simp only [Try.f100]
  repeat' first | (simp only [go_sem, Nat.reduceMul, Nat.reduceAdd, Nat.reduceSub, Nat.reduceEqDiff, reduceIte, Nat.reduceLT, reduceCtorEq, Nat.reduceLeDiff, Int.reduceEq, Int.reduceLT, Int.reduceLE, Nat.reduceBEq, Nat.reducePow, Int.reduceToNat]) | refine And.intro ?_ ?_ | (refine Bs_split ?_ ?_ <;> intro _) | (refine Sp_split ?_ ?_ <;> intro _)
  all_goals ((try intros); (try simp only [Bool.and_eq_true, Bool.or_eq_true, Bool.and_eq_false_iff, Bool.or_eq_false_iff, decide_eq_true_eq, decide_eq_false_iff_not, Bool.not_eq_true', Bool.not_eq_false', Bool.not_eq_true, Int.not_le, Int.not_lt, bne_iff_ne, beq_iff_eq] at *); (try simp (disch := omega) only [w64, true_and, and_true] at *); first | omega | assumption | rfl | (simp_all; done) | (simp_all; omega) | (simp (disch := omega) [dt, df, if_pos, if_neg]; done) | (simp (disch := omega) [dt, df, if_pos, if_neg, *]; done) | ((repeat' split) <;> (try simp_all) <;> (try omega) <;> done))
theorem f72 (b : Brk) (now : Int) (fine : Bool) (hb : goodB b = true) : Fn Try.prog 72 [.ag (brkL b), .ag [I now, B fine]] [] 0 (.tu [.ag (brkL (callB b now fine).1), B (callB b now fine).2]) [] 4 := by
  obtain ⟨h1, h2, h3, h4, h5, h6, h7⟩ := (goodB_iff b).1 hb
  refine fn_code tab_ok mixed [] Try.func72 rfl rfl (by simp [Try.f72]) (by kernel_rfl) ?_
  simp only [Try.f72]
  repeat' first | (simp only [go_sem, Nat.reduceMul, Nat.reduceAdd, Nat.reduceSub, Nat.reduceEqDiff, reduceIte, Nat.reduceLT, reduceCtorEq, Nat.reduceLeDiff, Int.reduceEq, Int.reduceLT, Int.reduceLE, Nat.reduceBEq, Nat.reducePow, Int.reduceToNat]) | refine And.intro ?_ ?_ | (refine Bs_split ?_ ?_ <;> intro _) | (refine Sp_split ?_ ?_ <;> intro _)
  all_goals ((try intros); (try simp only [Bool.and_eq_true, Bool.or_eq_true, Bool.and_eq_false_iff, Bool.or_eq_false_iff, decide_eq_true_eq, decide_eq_false_iff_not, Bool.not_eq_true', Bool.not_eq_false', Bool.not_eq_true, Int.not_le, Int.not_lt, bne_iff_ne, beq_iff_eq, callB] at *); (try simp (disch := omega) only [w64, true_and, and_true] at *); first | omega | assumption | rfl | (simp_all [callB]; done) | (simp_all [callB]; omega) | (simp (disch := omega) [dt, df, if_pos, if_neg, callB]; done) | (simp (disch := omega) [dt, df, if_pos, if_neg, *, callB]; done) | ((repeat' split) <;> (try simp_all [callB]) <;> (try omega) <;> done))
theorem f74 (fr : Bool) (b : Brk) (now : Int) (fine : Bool) (hb : goodB b = true) : Fn Try.prog 74 [.pb 0 0, .ag [I now, B fine]] [(0, some (fr, .box (brkL b)))] 1 (B (callB b now fine).2) [(0, some (fr, .box (brkL (callB b now fine).1)))] 4 := by
  obtain ⟨h1, h2, h3, h4, h5, h6, h7⟩ := (goodB_iff b).1 hb
  refine fn_code tab_ok mixed [(10, [(3, 6)]), (6, [(3, 6)])] Try.func74 rfl rfl (by simp [Try.f74]) (by kernel_rfl) ?_
  simp only [Try.f74]
  repeat' first | (simp only [go_sem, Nat.reduceMul, Nat.reduceAdd, Nat.reduceSub, Nat.reduceEqDiff, reduceIte, Nat.reduceLT, reduceCtorEq, Nat.reduceLeDiff, Int.reduceEq, Int.reduceLT, Int.reduceLE, Nat.reduceBEq, Nat.reducePow, Int.reduceToNat]) | refine And.intro ?_ ?_ | refine Cl_own (ids := [0]) (f100 false b _ hb) rfl rfl (by decide) rfl rfl ?_ | (refine Bs_split ?_ ?_ <;> intro _) | (refine Sp_split ?_ ?_ <;> intro _)
  all_goals ((try intros); (try simp only [Bool.and_eq_true, Bool.or_eq_true, Bool.and_eq_false_iff, Bool.or_eq_false_iff, decide_eq_true_eq, decide_eq_false_iff_not, Bool.not_eq_true', Bool.not_eq_false', Bool.not_eq_true, Int.not_le, Int.not_lt, bne_iff_ne, beq_iff_eq, callB] at *); (try simp (disch := omega) only [w64, true_and, and_true] at *); first | omega | assumption | rfl | (simp_all [callB]; done) | (simp_all [callB]; omega) | (simp (disch := omega) [dt, df, if_pos, if_neg, callB]; done) | (simp (disch := omega) [dt, df, if_pos, if_neg, *, callB]; done) | ((repeat' split) <;> (try simp_all [callB]) <;> (try omega) <;> done))
theorem f23 (b : Brk) (now : Int) (fine : Bool) : Fn Try.prog 23 [.ag (brkL b), .ag [I now, B fine]] [] 0 (.tu [.ag (brkL (callO b now fine).1), B (callO b now fine).2.1, B (callO b now fine).2.2]) [] 20 := by
  refine fn_code tab_ok mixed [] Try.func23 rfl rfl (by simp [Try.f23]) (by kernel_rfl) ?_
  simp only [Try.f23]
  repeat' first | (simp only [go_sem, Nat.reduceMul, Nat.reduceAdd, Nat.reduceSub, Nat.reduceEqDiff, reduceIte, Nat.reduceLT, reduceCtorEq, Nat.reduceLeDiff, Int.reduceEq, Int.reduceLT, Int.reduceLE, Nat.reduceBEq, Nat.reducePow, Int.reduceToNat]) | refine And.intro ?_ ?_ | refine Cl_use0 (f65 _ _ _) rfl (.inl rfl) ?_ | refine Cl_own (ids := []) (f71 _) rfl rfl (by decide) rfl rfl ?_ | refine Cl_own (ids := []) (f72 _ _ _ ?_) rfl rfl (by decide) rfl rfl ?_ | (refine Bs_split ?_ ?_ <;> intro _) | (refine Sp_split ?_ ?_ <;> intro _)
  all_goals ((try intros); (try simp only [Bool.and_eq_true, Bool.or_eq_true, Bool.and_eq_false_iff, Bool.or_eq_false_iff, decide_eq_true_eq, decide_eq_false_iff_not, Bool.not_eq_true', Bool.not_eq_false', Bool.not_eq_true, Int.not_le, Int.not_lt, bne_iff_ne, beq_iff_eq, callO, zeroB, okV] at *); (try simp (disch := omega) only [w64, true_and, and_true] at *); first | omega | assumption | rfl | (simp_all [callO, zeroB, okV]; done) | (simp_all [callO, zeroB, okV]; omega) | (simp (disch := omega) [dt, df, if_pos, if_neg, callO, zeroB, okV]; done) | (simp (disch := omega) [dt, df, if_pos, if_neg, *, callO, zeroB, okV]; done) | ((repeat' split) <;> (try simp_all [callO, zeroB, okV]) <;> (try omega) <;> done))
theorem f26 (b : Brk) (now : Int) (fine : Bool) : Fn Try.prog 26 [.ag (brkL b), .ag [I now, B fine]] [] 0 (.tu [.ag (brkL (callO b now fine).1), B (callO b now fine).2.1, B (callO b now fine).2.2]) [] 20 := by
  refine fn_code tab_ok mixed [] Try.func26 rfl rfl (by simp [Try.f26]) (by kernel_rfl) ?_
  simp only [Try.f26]
  repeat' first | (simp only [go_sem, Nat.reduceMul, Nat.reduceAdd, Nat.reduceSub, Nat.reduceEqDiff, reduceIte, Nat.reduceLT, reduceCtorEq, Nat.reduceLeDiff, Int.reduceEq, Int.reduceLT, Int.reduceLE, Nat.reduceBEq, Nat.reducePow, Int.reduceToNat]) | refine And.intro ?_ ?_ | refine Cl_use0 (f73 _) rfl (.inl rfl) ?_ | refine Cl_own (ids := []) (f53 _) rfl rfl (by decide) rfl rfl ?_ | refine Cl_own (ids := [0]) (f74 false _ _ _ ?_) rfl rfl (by decide) rfl rfl ?_ | (refine Bs_split ?_ ?_ <;> intro _) | (refine Sp_split ?_ ?_ <;> intro _)
  all_goals ((try intros); (try simp only [Bool.and_eq_true, Bool.or_eq_true, Bool.and_eq_false_iff, Bool.or_eq_false_iff, decide_eq_true_eq, decide_eq_false_iff_not, Bool.not_eq_true', Bool.not_eq_false', Bool.not_eq_true, Int.not_le, Int.not_lt, bne_iff_ne, beq_iff_eq, callO, zeroB, okV] at *); (try simp (disch := omega) only [w64, true_and, and_true] at *); first | omega | assumption | rfl | (simp_all [callO, zeroB, okV]; done) | (simp_all [callO, zeroB, okV]; omega) | (simp (disch := omega) [dt, df, if_pos, if_neg, callO, zeroB, okV]; done) | (simp (disch := omega) [dt, df, if_pos, if_neg, *, callO, zeroB, okV]; done) | ((repeat' split) <;> (try simp_all [callO, zeroB, okV]) <;> (try omega) <;> done))
theorem f7 (b : Brk) (now : Int) (fine : Bool) : Fn Try.prog 7 [.ag (brkL b), .ag [I now, B fine]] [] 0 (B true) [] 99 := by
  refine fn_code tab_ok mixed [(1, [(2, 1), (0, 9), (2, 9)]), (2, [(2, 1), (0, 9), (2, 9)])] Try.func7 rfl rfl (by simp [Try.f7]) (by kernel_rfl) ?_
  simp only [Try.f7]
  repeat' first | (simp only [go_sem, Nat.reduceMul, Nat.reduceAdd, Nat.reduceSub, Nat.reduceEqDiff, reduceIte, Nat.reduceLT, reduceCtorEq, Nat.reduceLeDiff, Int.reduceEq, Int.reduceLT, Int.reduceLE, Nat.reduceBEq, Nat.reducePow, Int.reduceToNat]) | refine And.intro ?_ ?_ | refine Cl_own (ids := []) (f24 _) rfl rfl (by decide) rfl rfl ?_ | refine Cl_own (ids := []) (f25 _ _) rfl rfl (by decide) rfl rfl ?_ | refine Cl_own (ids := []) (f23 _ _ _) rfl rfl (by decide) rfl rfl ?_ | refine Cl_own (ids := []) (f26 _ _ _) rfl rfl (by decide) rfl rfl ?_ | refine Cl_own (ids := []) (f27 _ _) rfl rfl (by decide) rfl rfl ?_ | (refine Bs_split ?_ ?_ <;> intro _) | (refine Sp_split ?_ ?_ <;> intro _)
  all_goals ((try intros); (try simp only [Bool.and_eq_true, Bool.or_eq_true, Bool.and_eq_false_iff, Bool.or_eq_false_iff, decide_eq_true_eq, decide_eq_false_iff_not, Bool.not_eq_true', Bool.not_eq_false', Bool.not_eq_true, Int.not_le, Int.not_lt, bne_iff_ne, beq_iff_eq] at *); (try simp (disch := omega) only [w64, true_and, and_true] at *); first | omega | assumption | rfl | (simp_all; done) | (simp_all; omega) | (simp (disch := omega) [dt, df, if_pos, if_neg]; done) | (simp (disch := omega) [dt, df, if_pos, if_neg, *]; done) | ((repeat' split) <;> (try simp_all) <;> (try omega) <;> done))
end Go.TL.Ytmmhgioeoikgbaa

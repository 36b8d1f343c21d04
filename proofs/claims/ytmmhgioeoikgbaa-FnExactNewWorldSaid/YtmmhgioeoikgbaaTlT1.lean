import Derived.Test.YtmmhgioeoikgbaaTlTabA
import Derived.Test.YtmmhgioeoikgbaaTlRows
set_option linter.unusedSimpArgs false
set_option linter.unusedVariables false
namespace Go.TL.Ytmmhgioeoikgbaa
open Go Go.Proofs Go.TL
set_option maxRecDepth 4000
theorem w64 {n : Int} (h : -9223372036854775808 ≤ n) (k : n ≤ 9223372036854775807) : IntKind.i64.wrap n = n := TL.w64 ⟨h, k⟩
theorem f75 (a b c : Int) : Fn Try.prog 75 [I a, I b, I c] [] 0 (B (decide (b ≤ a) && decide (a ≤ c))) [] 0 := by
  refine fn_code tab_ok mixed [] Try.func75 rfl rfl (by simp [Try.f75]) (by kernel_rfl) ?_
  simp only [Try.f75]
  repeat' first | (simp only [go_sem, Nat.reduceMul, Nat.reduceAdd, Nat.reduceSub, Nat.reduceEqDiff, ↓reduceIte, Nat.reduceLT, reduceCtorEq, Nat.reduceLeDiff, Int.reduceEq, Int.reduceLT, Int.reduceLE, Nat.reduceBEq]) | refine And.intro ?_ ?_ | refine ends_same ?_ | (refine Bs_split ?_ ?_ <;> intro _) | (refine Sp_split ?_ ?_ <;> intro _)
  all_goals (simp_all; try omega)
theorem f65 (a b c : Int) : Fn Try.prog 65 [I a, I b, I c] [] 0 (B (decide (b ≤ a) && decide (a ≤ c))) [] 0 := by
  refine fn_code tab_ok mixed [] Try.func65 rfl rfl (by simp [Try.f65]) (by kernel_rfl) ?_
  simp only [Try.f65]
  repeat' first | (simp only [go_sem, Nat.reduceMul, Nat.reduceAdd, Nat.reduceSub, Nat.reduceEqDiff, ↓reduceIte, Nat.reduceLT, reduceCtorEq, Nat.reduceLeDiff, Int.reduceEq, Int.reduceLT, Int.reduceLE, Nat.reduceBEq]) | refine And.intro ?_ ?_ | refine ends_same ?_ | (refine Bs_split ?_ ?_ <;> intro _) | (refine Sp_split ?_ ?_ <;> intro _)
  all_goals (simp_all; try omega)
def okV (v : Int) : Bool := decide (0 ≤ v) && decide (v ≤ 1000000)
theorem f64 (v : Int) : Fn Try.prog 64 [I v] [] 0 (B (okV v)) [] 0 := by
  refine fn_code tab_ok mixed [] Try.func64 rfl rfl (by simp [Try.f64]) (by kernel_rfl) ?_
  simp only [Try.f64]
  repeat' first | (simp only [go_sem, Nat.reduceMul, Nat.reduceAdd, Nat.reduceSub, Nat.reduceEqDiff, ↓reduceIte, Nat.reduceLT, reduceCtorEq, Nat.reduceLeDiff, Int.reduceEq, Int.reduceLT, Int.reduceLE, Nat.reduceBEq]) | refine And.intro ?_ ?_ | refine Cl_use0 (f75 _ _ _) rfl (.inl rfl) ?_ | refine ends_same ?_ | (refine Bs_split ?_ ?_ <;> intro _) | (refine Sp_split ?_ ?_ <;> intro _)
  rfl
theorem f63 (v : Int) : Fn Try.prog 63 [I v] [] 0 (B (okV v)) [] 0 := by
  refine fn_code tab_ok mixed [] Try.func63 rfl rfl (by simp [Try.f63]) (by kernel_rfl) ?_
  simp only [Try.f63]
  repeat' first | (simp only [go_sem, Nat.reduceMul, Nat.reduceAdd, Nat.reduceSub, Nat.reduceEqDiff, ↓reduceIte, Nat.reduceLT, reduceCtorEq, Nat.reduceLeDiff, Int.reduceEq, Int.reduceLT, Int.reduceLE, Nat.reduceBEq]) | refine And.intro ?_ ?_ | refine Cl_use0 (f65 _ _ _) rfl (.inl rfl) ?_ | refine ends_same ?_ | (refine Bs_split ?_ ?_ <;> intro _) | (refine Sp_split ?_ ?_ <;> intro _)
  rfl
def okR (v : Int) : Bool := decide (0 ≤ v) && decide (v ≤ 9)
theorem f67 (v : Int) : Fn Try.prog 67 [I v] [] 0 (B (okR v)) [] 0 := by
  refine fn_code tab_ok mixed [] Try.func67 rfl rfl (by simp [Try.f67]) (by kernel_rfl) ?_
  simp only [Try.f67]
  repeat' first | (simp only [go_sem, Nat.reduceMul, Nat.reduceAdd, Nat.reduceSub, Nat.reduceEqDiff, ↓reduceIte, Nat.reduceLT, reduceCtorEq, Nat.reduceLeDiff, Int.reduceEq, Int.reduceLT, Int.reduceLE, Nat.reduceBEq]) | refine And.intro ?_ ?_ | refine Cl_use0 (f75 _ _ _) rfl (.inl rfl) ?_ | refine ends_same ?_ | (refine Bs_split ?_ ?_ <;> intro _) | (refine Sp_split ?_ ?_ <;> intro _)
  rfl
theorem okV_iff (v : Int) : okV v = true ↔ 0 ≤ v ∧ v ≤ 1000000 := by simp [okV]
theorem okR_iff (v : Int) : okR v = true ↔ 0 ≤ v ∧ v ≤ 9 := by simp [okR]
theorem tm {v : Int} (h : okV v = true) : v.tmod 10 = v % 10 := Int.tmod_eq_emod_of_nonneg ((okV_iff v).1 h).1
def regOf (v : Int) : Int := if okV v = true then v % 10 else 0
theorem f16 (v : Int) : Fn Try.prog 16 [I v] [] 0 (.tu [I (regOf v), B (okV v)]) [] 0 := by
  refine fn_code tab_ok mixed [] Try.func16 rfl rfl (by simp [Try.f16]) (by kernel_rfl) ?_
  simp only [Try.f16]
  repeat' first | (simp only [go_sem, Nat.reduceMul, Nat.reduceAdd, Nat.reduceSub, Nat.reduceEqDiff, ↓reduceIte, Nat.reduceLT, reduceCtorEq, Nat.reduceLeDiff, Int.reduceEq, Int.reduceLT, Int.reduceLE, Nat.reduceBEq]) | refine And.intro ?_ ?_ | refine Cl_use0 (f64 _) rfl (.inl rfl) ?_ | refine ends_same ?_ | (refine Bs_split ?_ ?_ <;> intro _) | (refine Sp_split ?_ ?_ <;> intro _)
  all_goals simp_all [regOf, tm]
theorem f15 (v : Int) : Fn Try.prog 15 [I v] [] 0 (.tu [I (regOf v), B (okV v)]) [] 0 := by
  refine fn_code tab_ok mixed [] Try.func15 rfl rfl (by simp [Try.f15]) (by kernel_rfl) ?_
  simp only [Try.f15]
  repeat' first | (simp only [go_sem, Nat.reduceMul, Nat.reduceAdd, Nat.reduceSub, Nat.reduceEqDiff, ↓reduceIte, Nat.reduceLT, reduceCtorEq, Nat.reduceLeDiff, Int.reduceEq, Int.reduceLT, Int.reduceLE, Nat.reduceBEq]) | refine And.intro ?_ ?_ | refine Cl_use0 (f63 _) rfl (.inl rfl) ?_ | refine ends_same ?_ | (refine Bs_split ?_ ?_ <;> intro _) | (refine Sp_split ?_ ?_ <;> intro _)
  all_goals simp_all [regOf, tm]
def step (v r : Int) : Int := if v - v % 10 + r ≤ v then v - v % 10 + r + 10 else v - v % 10 + r
theorem f66 (v r : Int) (hv : okV v = true) (hr : okR r = true) : Fn Try.prog 66 [I v, I r] [] 0 (I (step v r)) [] 0 := by
  refine fn_code tab_ok mixed [] Try.func66 rfl rfl (by simp [Try.f66]) (by kernel_rfl) ?_
  simp only [Try.f66]
  have ht := tm hv
  rw [okV_iff] at hv; rw [okR_iff] at hr
  simp only [go_sem, Nat.reduceMul, Nat.reduceAdd, Nat.reduceSub, Nat.reduceEqDiff, ↓reduceIte, Nat.reduceLT, reduceCtorEq, Nat.reduceLeDiff, Int.reduceEq, Int.reduceLT, Int.reduceLE, Nat.reduceBEq]
  rw [ht, w64 (n := v - v % 10) (by omega) (by omega), w64 (n := v - v % 10 + r) (by omega) (by omega)]
  repeat' first | (simp only [go_sem, Nat.reduceMul, Nat.reduceAdd, Nat.reduceSub, Nat.reduceEqDiff, ↓reduceIte, Nat.reduceLT, reduceCtorEq, Nat.reduceLeDiff, Int.reduceEq, Int.reduceLT, Int.reduceLE, Nat.reduceBEq]) | refine And.intro ?_ ?_ | refine ends_same ?_ | (refine Bs_split ?_ ?_ <;> intro _) | (refine Sp_split ?_ ?_ <;> intro _)
  all_goals (have hw := w64 (n := v - v % 10 + r + 10) (by omega) (by omega); simp_all [step]; try omega)
def okN (v r : Int) : Bool := okV v && okR r && okV (step v r)
def nextOf (v r : Int) : Int := if okN v r = true then step v r else 0
theorem f17 (v r : Int) : Fn Try.prog 17 [I v, I r] [] 0 (.tu [I (nextOf v r), B (okN v r)]) [] 0 := by
  refine fn_code tab_ok mixed [] Try.func17 rfl rfl (by simp [Try.f17]) (by kernel_rfl) ?_
  simp only [Try.f17]
  repeat' first | (simp only [go_sem, Nat.reduceMul, Nat.reduceAdd, Nat.reduceSub, Nat.reduceEqDiff, ↓reduceIte, Nat.reduceLT, reduceCtorEq, Nat.reduceLeDiff, Int.reduceEq, Int.reduceLT, Int.reduceLE, Nat.reduceBEq]) | refine And.intro ?_ ?_ | refine Cl_use0 (f63 _) rfl (.inl rfl) ?_ | refine Cl_use0 (f65 _ _ _) rfl (.inl rfl) ?_ | refine Cl_use0 (f66 _ _ ?_ ?_) rfl (.inl rfl) ?_ | refine ends_same ?_ | (refine Bs_split ?_ ?_ <;> intro _) | (refine Sp_split ?_ ?_ <;> intro _)
  all_goals first | (simp_all [nextOf, okN, okR]; done) | (simp_all [nextOf, okN, okR]; omega) | (simp_all [nextOf, okN, okR]; (repeat' constructor) <;> intros <;> omega)
theorem w1 {v : Int} (hv : okV v = true) : IntKind.i64.wrap (v - v % 10) = v - v % 10 := by rw [okV_iff] at hv; exact w64 (by omega) (by omega)
theorem w2 {v r : Int} (hv : okV v = true) (hr : okR r = true) : IntKind.i64.wrap (v - v % 10 + r) = v - v % 10 + r := by rw [okV_iff] at hv; rw [okR_iff] at hr; exact w64 (by omega) (by omega)
theorem w3 {v r : Int} (hv : okV v = true) (hr : okR r = true) : IntKind.i64.wrap (v - v % 10 + r + 10) = v - v % 10 + r + 10 := by rw [okV_iff] at hv; rw [okR_iff] at hr; exact w64 (by omega) (by omega)
theorem st1 {v r : Int} (h : v - v % 10 + r ≤ v) : step v r = v - v % 10 + r + 10 := if_pos h
theorem st2 {v r : Int} (h : v < v - v % 10 + r) : step v r = v - v % 10 + r := if_neg (by omega)
theorem f18 (v r : Int) : Fn Try.prog 18 [I v, I r] [] 0 (.tu [I (nextOf v r), B (okN v r)]) [] 0 := by
  refine fn_code tab_ok mixed [] Try.func18 rfl rfl (by simp [Try.f18]) (by kernel_rfl) ?_
  simp only [Try.f18]
  repeat' first | (simp only [go_sem, Nat.reduceMul, Nat.reduceAdd, Nat.reduceSub, Nat.reduceEqDiff, ↓reduceIte, Nat.reduceLT, reduceCtorEq, Nat.reduceLeDiff, Int.reduceEq, Int.reduceLT, Int.reduceLE, Nat.reduceBEq]) | refine And.intro ?_ ?_ | refine Cl_use0 (f64 _) rfl (.inl rfl) ?_ | refine Cl_use0 (f67 _) rfl (.inl rfl) ?_ | refine ends_same ?_ | (refine Bs_split ?_ ?_ <;> intro _) | (refine Sp_split ?_ ?_ <;> intro _)
  all_goals first | (simp_all [tm, w1, w2, w3, nextOf, okN]; done) | (simp_all only [tm, w1, w2, w3, Bool.not_eq_true', Bool.not_eq_false', decide_eq_true_eq, decide_eq_false_iff_not, Int.not_le]; first | (have hs := st1 (v := v) (r := r) (by omega); simp_all [nextOf, okN]; done) | (have hs := st2 (v := v) (r := r) (by omega); simp_all [nextOf, okN]; done))
def grac (a b : Int) : Bool := okV a && okV b && (decide (b = step a (b % 10)) && decide (b % 10 ≠ a % 10))
theorem okR_mod {v : Int} (h : okV v = true) : okR (v % 10) = true := by have := (okV_iff v).1 h; rw [okR_iff]; omega
theorem f19 (a b : Int) : Fn Try.prog 19 [I a, I b] [] 0 (.tu [B (grac a b), B (okV a && okV b)]) [] 0 := by
  refine fn_code tab_ok mixed [] Try.func19 rfl rfl (by simp [Try.f19]) (by kernel_rfl) ?_
  simp only [Try.f19]
  repeat' first | (simp only [go_sem, Nat.reduceMul, Nat.reduceAdd, Nat.reduceSub, Nat.reduceEqDiff, ↓reduceIte, Nat.reduceLT, reduceCtorEq, Nat.reduceLeDiff, Int.reduceEq, Int.reduceLT, Int.reduceLE, Nat.reduceBEq]) | refine And.intro ?_ ?_ | refine Cl_use0 (f63 _) rfl (.inl rfl) ?_ | refine Cl_use0 (f66 _ _ ?_ ?_) rfl (.inl rfl) ?_ | refine ends_same ?_ | (refine Bs_split ?_ ?_ <;> intro _) | (refine Sp_split ?_ ?_ <;> intro _)
  · rename_i h1; simp only [Bool.not_eq_true', Bool.not_eq_false'] at h1; simp only [grac, h1, Bool.false_and]
  · rename_i h1 h2; simp only [Bool.not_eq_true', Bool.not_eq_false'] at h1 h2; simp only [grac, h1, h2, Bool.false_and, Bool.and_false]
  · rename_i h1 h2; simp only [Bool.not_eq_true', Bool.not_eq_false'] at h1 h2; exact h1
  · rename_i h1 h2; simp only [Bool.not_eq_true', Bool.not_eq_false'] at h1 h2; rw [tm h2]; exact okR_mod h2
  · rename_i h1 h2 h3; simp only [Bool.not_eq_true', Bool.not_eq_false'] at h1 h2; rw [tm h2] at h3 ⊢; rw [tm h1]; simp only [grac, h1, h2, h3, Bool.true_and, Bool.and_true, ne_eq, decide_not]
  · rename_i h1 h2 h3; simp only [Bool.not_eq_true', Bool.not_eq_false'] at h1 h2; rw [tm h2] at h3; simp only [grac, h1, h2, h3, Bool.true_and, Bool.false_and, Bool.and_true]
theorem grac_eq {a b : Int} (ha : okV a = true) (hb : okV b = true) : grac a b = (okN a (b % 10) && (decide (nextOf a (b % 10) = b) && !decide (a % 10 = b % 10))) := by
  have hr := okR_mod hb
  have hd : decide (b % 10 ≠ a % 10) = !decide (a % 10 = b % 10) := by rw [decide_not]; congr 1; exact decide_eq_decide.2 ⟨Eq.symm, Eq.symm⟩
  unfold grac
  rw [hd]
  by_cases hs : step a (b % 10) = b
  · have h2 : okN a (b % 10) = true := by simp only [okN, ha, hr, hs, hb, Bool.and_self]
    have h3 : nextOf a (b % 10) = b := by simp only [nextOf, h2, if_true, hs]
    simp only [ha, hb, h2, h3, hs, Bool.true_and, decide_true]
  · have h3 : decide (b = step a (b % 10)) = false := decide_eq_false fun h => hs h.symm
    rw [h3]
    by_cases hn : okN a (b % 10) = true
    · have h4 : decide (nextOf a (b % 10) = b) = false := by simp only [nextOf, hn, if_true]; exact decide_eq_false hs
      rw [h4]; simp only [Bool.false_and, Bool.and_false]
    · rw [Bool.not_eq_true] at hn
      rw [hn]; simp only [Bool.false_and, Bool.and_false]
theorem f20 (a b : Int) : Fn Try.prog 20 [I a, I b] [] 0 (.tu [B (grac a b), B (okV a && okV b)]) [] 0 := by
  refine fn_code tab_ok mixed [] Try.func20 rfl rfl (by simp [Try.f20]) (by kernel_rfl) ?_
  simp only [Try.f20]
  repeat' first | (simp only [go_sem, Nat.reduceMul, Nat.reduceAdd, Nat.reduceSub, Nat.reduceEqDiff, ↓reduceIte, Nat.reduceLT, reduceCtorEq, Nat.reduceLeDiff, Int.reduceEq, Int.reduceLT, Int.reduceLE, Nat.reduceBEq]) | refine And.intro ?_ ?_ | refine Cl_use0 (f64 _) rfl (.inl rfl) ?_ | refine Cl_use0 (f18 _ _) rfl (.inl rfl) ?_ | refine ends_same ?_ | (refine Bs_split ?_ ?_ <;> intro _) | (refine Sp_split ?_ ?_ <;> intro _)
  · rename_i h1; simp only [Bool.not_eq_true', Bool.not_eq_false'] at h1; simp only [grac, h1, Bool.false_and]
  · rename_i h1 h2; simp only [Bool.not_eq_true', Bool.not_eq_false'] at h1 h2; simp only [grac, h1, h2, Bool.false_and, Bool.and_false]
  · rename_i h1 h2 h3 h4; simp only [Bool.not_eq_true', Bool.not_eq_false'] at h1 h2; rw [tm h2] at h3 h4 ⊢; rw [tm h1, grac_eq h1 h2]; simp only [h1, h2, h3, h4, Bool.true_and]
  · rename_i h1 h2 h3 h4; simp only [Bool.not_eq_true', Bool.not_eq_false'] at h1 h2; rw [tm h2] at h3 h4; rw [grac_eq h1 h2]; simp only [h1, h2, h3, h4, Bool.true_and, Bool.false_and, Bool.and_false]
  · rename_i h1 h2 h3; simp only [Bool.not_eq_true', Bool.not_eq_false'] at h1 h2; rw [tm h2] at h3; rw [grac_eq h1 h2]; simp only [h1, h2, h3, Bool.true_and, Bool.false_and, Bool.and_false]
abbrev byt (b : Int) : List Leaf := [.sc (.int .u8 b)]
abbrev cur (t : Bool) (bs : List Int) (at_ seed : Int) : Ob := .box [.lf t (.sl (bs.map byt)), I at_, U seed]
theorem bs_get {bs : List Int} {n : Nat} (h : n < bs.length) : (bs.map byt).getD n [] = [.sc (.int .u8 (bs.getD n 0))] := by simp [List.getD, h]
def nextB (bs : List Int) (a : Int) : Int := if a < bs.length then IntKind.i64.wrap (bs.getD a.toNat 0) else 0
def nextS (bs : List Int) (a s : Int) : Int := IntKind.u64.wrap (IntKind.u64.wrap (IntKind.u64.wrap (s * 6364136223846793005) + IntKind.u64.wrap (nextB bs a)) + 1442695040888963407)
def nextV (bs : List Int) (a s : Int) : Int := if a + 1 ≤ bs.length then nextB bs a else IntKind.i64.wrap (IntKind.u64.wrap (BitVec.ofInt 64 ((nextS bs a s).fdiv (2 ^ min (Int.toNat 40) 64)) &&& BitVec.ofInt 64 255).toNat)
theorem f108 (fr t : Bool) (bs : List Int) (a s : Int) (h0 : 0 ≤ a) (h1 : a < 4611686018427387904) : Fn Try.prog 108 [.pb 0 0] [(0, some (fr, cur t bs a s))] 1 (I (nextV bs a s)) [(0, some (fr, cur t bs (a + 1) (nextS bs a s)))] 1 := by
  refine fn_code tab_ok mixed [] Try.func108 rfl rfl (by simp [Try.f108]) (by kernel_rfl) ?_
  simp only [Try.f108]
  have hw : IntKind.i64.wrap (a + 1) = a + 1 := w64 (by omega) (by omega)
  by_cases h : a < bs.length
  · have hb := bs_get (bs := bs) (n := a.toNat) (by omega)
    repeat' first | (simp only [go_sem, Nat.reduceMul, Nat.reduceAdd, Nat.reduceSub, Nat.reduceEqDiff, ↓reduceIte, Nat.reduceLT, reduceCtorEq, Nat.reduceLeDiff, Int.reduceEq, Int.reduceLT, Int.reduceLE, Nat.reduceBEq, List.length_map, *]) | refine And.intro ?_ ?_ | refine ends_same ?_ | (refine Bs_split ?_ ?_ <;> intro _) | (refine Sp_split ?_ ?_ <;> intro _)
    all_goals first | (intro i _; by_cases hi : i = 0 <;> simp only [hi, if_true, if_false, nextS, nextB, h]; done) | (rename_i h9; first | (rw [decide_eq_true_eq] at h9; simp only [nextV, nextS, nextB, h, h9, if_true, if_false] <;> rfl) | (rw [decide_eq_false_iff_not] at h9; simp only [nextV, nextS, nextB, h, h9, if_true, if_false] <;> rfl))
  · repeat' first | (simp only [go_sem, Nat.reduceMul, Nat.reduceAdd, Nat.reduceSub, Nat.reduceEqDiff, ↓reduceIte, Nat.reduceLT, reduceCtorEq, Nat.reduceLeDiff, Int.reduceEq, Int.reduceLT, Int.reduceLE, Nat.reduceBEq, List.length_map, *]) | refine And.intro ?_ ?_ | refine ends_same ?_ | (refine Bs_split ?_ ?_ <;> intro _) | (refine Sp_split ?_ ?_ <;> intro _)
    all_goals first | (intro i _; by_cases hi : i = 0 <;> simp only [hi, if_true, if_false, nextS, nextB, h]; done) | (rename_i h9; first | (rw [decide_eq_true_eq] at h9; simp only [nextV, nextS, nextB, h, h9, if_true, if_false] <;> rfl) | (rw [decide_eq_false_iff_not] at h9; simp only [nextV, nextS, nextB, h, h9, if_true, if_false] <;> rfl))
def pickV (bs : List Int) (a s n : Int) : Int := if n ≤ 1 then 0 else (nextV bs a s).tmod n
def pickA (a n : Int) : Int := if n ≤ 1 then a else a + 1
def pickS (bs : List Int) (a s n : Int) : Int := if n ≤ 1 then s else nextS bs a s
theorem f69 (fr : Bool) (bs : List Int) (a s n : Int) (h0 : 0 ≤ a) (h1 : a < 4611686018427387904) (hn : n ≤ 200) : Fn Try.prog 69 [.pb 0 0, I n] [(0, some (fr, cur true bs a s))] 1 (I (pickV bs a s n)) [(0, some (fr, cur true bs (pickA a n) (pickS bs a s n)))] 1 := by
  refine fn_code tab_ok mixed [] Try.func69 rfl rfl (by simp [Try.f69]) (by kernel_rfl) ?_
  simp only [Try.f69]
  repeat' first | (simp only [go_sem, Nat.reduceMul, Nat.reduceAdd, Nat.reduceSub, Nat.reduceEqDiff, ↓reduceIte, Nat.reduceLT, reduceCtorEq, Nat.reduceLeDiff, Int.reduceEq, Int.reduceLT, Int.reduceLE, Nat.reduceBEq, List.length_map]) | refine And.intro ?_ ?_ | refine Cl_own (ids := [0]) (f108 false true _ _ _ ?_ ?_) rfl rfl (by decide) rfl rfl ?_ | refine ends_same ?_ | (refine Bs_split ?_ ?_ <;> intro _) | (refine Sp_split ?_ ?_ <;> intro _)
  all_goals ((try simp only [decide_eq_true_eq, decide_eq_false_iff_not, Bool.not_eq_true', Bool.not_eq_false'] at *); first | omega | assumption | (intro i hne; exact False.elim hne) | (simp only [pickV, pickA, pickS, *, if_true, if_false, Bool.false_eq_true]; done) | (intro i _; by_cases hi : i = 0 <;> simp only [hi, pickV, pickA, pickS, *, if_true, if_false]; done) | (intro i hne; by_cases hi : i = 0; (subst hi; simp only [pickV, pickA, pickS, *, if_true, if_false, reduceIte, Nat.reduceEqDiff]); (exact absurd (by simp only [hi, if_false]) hne)) | (exfalso; omega))
  all_goals trace_state
theorem f70 (fr : Bool) (bs : List Int) (a s n : Int) (h0 : 0 ≤ a) (h1 : a < 4611686018427387904) (hn : n ≤ 200) : Fn Try.prog 70 [.pb 0 0, I n] [(0, some (fr, cur true bs a s))] 1 (B (decide (pickV bs a s n = 0))) [(0, some (fr, cur true bs (pickA a n) (pickS bs a s n)))] 1 := by
  refine fn_code tab_ok mixed [] Try.func70 rfl rfl (by simp [Try.f70]) (by kernel_rfl) ?_
  simp only [Try.f70]
  repeat' first | (simp only [go_sem, Nat.reduceMul, Nat.reduceAdd, Nat.reduceSub, Nat.reduceEqDiff, ↓reduceIte, Nat.reduceLT, reduceCtorEq, Nat.reduceLeDiff, Int.reduceEq, Int.reduceLT, Int.reduceLE, Nat.reduceBEq, List.length_map]) | refine And.intro ?_ ?_ | refine Cl_own (ids := [0]) (f69 false _ _ _ _ ?_ ?_ ?_) rfl rfl (by decide) rfl rfl ?_ | refine ends_same ?_ | (refine Bs_split ?_ ?_ <;> intro _) | (refine Sp_split ?_ ?_ <;> intro _)
  all_goals ((try simp only [decide_eq_true_eq, decide_eq_false_iff_not, Bool.not_eq_true', Bool.not_eq_false'] at *); first | omega | assumption | (intro i hne; exact False.elim hne) | (simp only [pickV, *, if_true, if_false, Bool.false_eq_true]; done) | (intro i _; by_cases hi : i = 0 <;> simp only [hi, pickV, *, if_true, if_false]; done) | (intro i hne; by_cases hi : i = 0; (subst hi; simp only [pickV, *, if_true, if_false, reduceIte, Nat.reduceEqDiff]); (exact absurd (by simp only [hi, if_false]) hne)) | (exfalso; omega))
  all_goals trace_state
def Byts (bs : List Int) : Prop := ∀ b ∈ bs, 0 ≤ b ∧ b ≤ 255
theorem byts_get {bs : List Int} (h : Byts bs) (n : Nat) : 0 ≤ bs.getD n 0 ∧ bs.getD n 0 ≤ 255 := by
  by_cases hn : n < bs.length
  · have : bs.getD n 0 = bs[n] := by simp [hn]
    rw [this]; exact h _ (List.getElem_mem hn)
  · have : bs.getD n 0 = 0 := by simp [List.getD, List.getElem?_eq_none (show bs.length ≤ n by omega)]
    rw [this]; omega
theorem nextB_bd {bs : List Int} (h : Byts bs) (a : Int) : 0 ≤ nextB bs a ∧ nextB bs a ≤ 255 := by
  have := byts_get h a.toNat
  unfold nextB
  split
  · rw [w64 (by omega) (by omega)]; exact this
  · omega
theorem u64_small {n : Int} (h : 0 ≤ n) (k : n ≤ 9223372036854775807) : IntKind.u64.wrap n = n := by
  unfold IntKind.wrap; simp [IntKind.bits, IntKind.signed]; omega
theorem nextV_bd {bs : List Int} (h : Byts bs) (a s : Int) : 0 ≤ nextV bs a s ∧ nextV bs a s ≤ 255 := by
  have hb := nextB_bd h a
  unfold nextV
  split
  · exact hb
  · generalize (nextS bs a s).fdiv (2 ^ min (Int.toNat 40) 64) = y
    have hle : (BitVec.ofInt 64 y &&& BitVec.ofInt 64 255).toNat ≤ 255 := by
      rw [BitVec.toNat_and]
      refine Nat.le_trans Nat.and_le_right ?_
      decide
    rw [u64_small (by omega) (by omega), w64 (by omega) (by omega)]
    omega
theorem pickV_bd {bs : List Int} (h : Byts bs) (a s : Int) {n : Int} (hn : 1 ≤ n) : 0 ≤ pickV bs a s n ∧ pickV bs a s n < n := by
  have := nextV_bd h a s
  unfold pickV
  split
  · omega
  · rw [Int.tmod_eq_emod_of_nonneg this.1]; exact ⟨Int.emod_nonneg _ (by omega), Int.emod_lt_of_pos _ (by omega)⟩
abbrev ent (b : Int) : List Leaf := [.sc (.int .i64 b)]
theorem is_get {ls : List Int} {n : Nat} (h : n < ls.length) : (ls.map ent).getD n [] = [.sc (.int .i64 (ls.getD n 0))] := by simp [List.getD, h]
theorem f107 (fr t : Bool) (bs ls : List Int) (a s : Int) (h0 : 0 ≤ a) (h1 : a < 4611686018427387904) (hb : Byts bs) (hl : 2 ≤ ls.length ∧ ls.length ≤ 200) : Fn Try.prog 107 [.pb 0 0, .lf t (.sl (ls.map ent))] [(0, some (fr, cur true bs a s))] 1 (I (ls.getD (pickV bs a s ls.length).toNat 0)) [(0, some (fr, cur true bs (pickA a ls.length) (pickS bs a s ls.length)))] 1 := by
  refine fn_code tab_ok mixed [] Try.func107 rfl rfl (by simp [Try.f107]) (by kernel_rfl) ?_
  simp only [Try.f107]
  have hp := pickV_bd hb a s (n := ls.length) (by omega)
  have hg := is_get (ls := ls) (n := (pickV bs a s ls.length).toNat) (by omega)
  repeat' first | (simp only [go_sem, Nat.reduceMul, Nat.reduceAdd, Nat.reduceSub, Nat.reduceEqDiff, ↓reduceIte, Nat.reduceLT, reduceCtorEq, Nat.reduceLeDiff, Int.reduceEq, Int.reduceLT, Int.reduceLE, Nat.reduceBEq, List.length_map, hg, hp]) | refine And.intro ?_ ?_ | refine Cl_own (ids := [0]) (f69 false _ _ _ _ ?_ ?_ ?_) rfl rfl (by decide) rfl rfl ?_ | refine ends_same ?_ | (refine Bs_split ?_ ?_ <;> intro _) | (refine Sp_split ?_ ?_ <;> intro _)
  all_goals ((try simp only [decide_eq_true_eq, decide_eq_false_iff_not, Bool.not_eq_true', Bool.not_eq_false'] at *); first | omega | assumption | (intro i hne; exact False.elim hne) | (simp only [pickV, *, if_true, if_false, Bool.false_eq_true]; done) | (intro i _; by_cases hi : i = 0 <;> simp only [hi, pickV, *, if_true, if_false]; done) | (intro i hne; by_cases hi : i = 0; (subst hi; simp only [pickV, *, if_true, if_false, reduceIte, Nat.reduceEqDiff]); (exact absurd (by simp only [hi, if_false]) hne)) | (exfalso; omega))
  all_goals trace_state
theorem f107o (fr fr2 tt ex : Bool) (bs ls : List Int) (a s : Int) (mc : Nat) (h0 : 0 ≤ a) (h1 : a < 4611686018427387904) (hb : Byts bs) (hl : 2 ≤ ls.length ∧ ls.length ≤ 200) : Fn Try.prog 107 [.pb 0 0, .os 1 1 0 ls.length mc ex] [(0, some (fr, cur true bs a s)), (1, some (fr2, .arr tt 1 (ls.map ent)))] 2 (I (ls.getD (pickV bs a s ls.length).toNat 0)) [(0, some (fr, cur true bs (pickA a ls.length) (pickS bs a s ls.length))), (1, some (fr2, .arr tt 1 (ls.map ent)))] 2 := by
  refine fn_code tab_ok mixed [] Try.func107 rfl rfl (by simp [Try.f107]) (by kernel_rfl) ?_
  simp only [Try.f107]
  have hp := pickV_bd hb a s (n := ls.length) (by omega)
  have hg := is_get (ls := ls) (n := (pickV bs a s ls.length).toNat) (by omega)
  have hlt : (pickV bs a s ls.length).toNat < ls.length := by omega
  repeat' first | (simp only [go_sem, Nat.reduceMul, Nat.reduceAdd, Nat.reduceSub, Nat.reduceEqDiff, ↓reduceIte, Nat.reduceLT, reduceCtorEq, Nat.reduceLeDiff, Int.reduceEq, Int.reduceLT, Int.reduceLE, Nat.reduceBEq, List.length_map, hg, hp, hlt]) | refine And.intro ?_ ?_ | refine Cl_own (ids := [0]) (f69 false _ _ _ _ ?_ ?_ ?_) rfl rfl (by decide) rfl rfl ?_ | refine ends_same ?_ | (refine Bs_split ?_ ?_ <;> intro _) | (refine Sp_split ?_ ?_ <;> intro _)
  all_goals ((try simp only [decide_eq_true_eq, decide_eq_false_iff_not, Bool.not_eq_true', Bool.not_eq_false'] at *); first | omega | assumption | (intro i hne; exact False.elim hne) | (simp only [pickV, *, if_true, if_false, Bool.false_eq_true]; done) | (intro i _; by_cases hi : i = 0 <;> simp only [hi, pickV, *, if_true, if_false]; done) | (intro i hne; by_cases hi : i = 0; (subst hi; simp only [pickV, *, if_true, if_false, reduceIte, Nat.reduceEqDiff]); (exact absurd (by simp only [hi, if_false]) hne)) | (exfalso; omega))
  all_goals trace_state
abbrev verL : List Int := [-1, 999990, 999999, 1000000, 1000001]
def verV (bs : List Int) (a s : Int) : Int := if pickV bs a s 12 = 0 then verL.getD (pickV bs (a + 1) (nextS bs a s) 5).toNat 0 else pickV bs (a + 1) (nextS bs a s) 60
def verS (bs : List Int) (a s : Int) : Int := nextS bs (a + 1) (nextS bs a s)
theorem pA {a n : Int} (h : 1 < n) : pickA a n = a + 1 := if_neg (by omega)
theorem pS {bs : List Int} {a s n : Int} (h : 1 < n) : pickS bs a s n = nextS bs a s := if_neg (by omega)
theorem pA12 (a : Int) : pickA a 12 = a + 1 := pA (by omega)
theorem pS12 (bs : List Int) (a s : Int) : pickS bs a s 12 = nextS bs a s := pS (by omega)
theorem pA5 (a : Int) : pickA a 5 = a + 1 := pA (by omega)
theorem pS5 (bs : List Int) (a s : Int) : pickS bs a s 5 = nextS bs a s := pS (by omega)
theorem pA60 (a : Int) : pickA a 60 = a + 1 := pA (by omega)
theorem pS60 (bs : List Int) (a s : Int) : pickS bs a s 60 = nextS bs a s := pS (by omega)
theorem f68 (fr : Bool) (bs : List Int) (a s : Int) (h0 : 0 ≤ a) (h1 : a < 4611686018427387900) (hb : Byts bs) : Fn Try.prog 68 [.pb 0 0] [(0, some (fr, cur true bs a s))] 1 (I (verV bs a s)) [(0, some (fr, cur true bs (a + 1 + 1) (verS bs a s)))] 2 := by
  refine fn_code tab_ok mixed [] Try.func68 rfl rfl (by simp [Try.f68]) (by kernel_rfl) ?_
  simp only [Try.f68]
  repeat' first | (simp only [go_sem, Nat.reduceMul, Nat.reduceAdd, Nat.reduceSub, Nat.reduceEqDiff, ↓reduceIte, Nat.reduceLT, reduceCtorEq, Nat.reduceLeDiff, Int.reduceEq, Int.reduceLT, Int.reduceLE, Nat.reduceBEq, List.length_map, pA12, pS12, pA60, pS60, pA5, pS5]) | refine And.intro ?_ ?_ | refine Cl_own (ids := [0]) (f70 false _ _ _ _ ?_ ?_ ?_) rfl rfl (by decide) rfl rfl ?_ | refine Cl_own (ids := [0, 1]) (f107o false false _ _ _ verL _ _ _ ?_ ?_ ?_ ?_) rfl rfl (by decide) rfl rfl ?_ | refine Cl_own (ids := [0]) (f69 false _ _ _ _ ?_ ?_ ?_) rfl rfl (by decide) rfl rfl ?_ | refine ends_same ?_ | (refine Bs_split ?_ ?_ <;> intro _) | (refine Sp_split ?_ ?_ <;> intro _)
  all_goals ((try simp only [decide_eq_true_eq, decide_eq_false_iff_not, Bool.not_eq_true', Bool.not_eq_false'] at *); first | omega | assumption | (intro i hne; exact False.elim hne) | (simp only [verV, verS, *, if_true, if_false, Bool.false_eq_true]; done) | (intro i _; by_cases hi : i = 0 <;> simp only [hi, verV, verS, *, if_true, if_false]; done) | (intro i hne; by_cases hi : i = 0; (subst hi; simp only [verV, verS, *, if_true, if_false, reduceIte, Nat.reduceEqDiff]); (exact absurd (by simp only [hi, if_false]) hne)) | (exfalso; omega))
  all_goals first | assumption | decide | trace_state
abbrev dA : Int := 0 + 1 + 1
def drN1 (bs : List Int) : Int := verV bs 0 0
def drN2 (bs : List Int) : Int := IntKind.i64.wrap (pickV bs (0 + 1 + 1) (verS bs 0 0) 12 - 1)
theorem f21 (bs : List Int) (hb : Byts bs) : Fn Try.prog 21 [.lf true (.sl (bs.map byt))] [] 0 (.tu [I (drN1 bs), I (drN2 bs)]) [] 2 := by
  refine fn_code tab_ok mixed [] Try.func21 rfl rfl (by simp [Try.f21]) (by kernel_rfl) ?_
  simp only [Try.f21]
  repeat' first | (simp only [go_sem, Nat.reduceMul, Nat.reduceAdd, Nat.reduceSub, Nat.reduceEqDiff, ↓reduceIte, Nat.reduceLT, reduceCtorEq, Nat.reduceLeDiff, Int.reduceEq, Int.reduceLT, Int.reduceLE, Nat.reduceBEq, List.length_map, pA12, pS12, pA60, pS60, pA5, pS5]) | refine And.intro ?_ ?_ | refine Cl_own (ids := [0]) (f68 false _ _ _ ?_ ?_ ?_) rfl rfl (by decide) rfl rfl ?_ | refine Cl_own (ids := [0]) (f69 false _ _ _ _ ?_ ?_ ?_) rfl rfl (by decide) rfl rfl ?_ | refine ends_same ?_ | (refine Bs_split ?_ ?_ <;> intro _) | (refine Sp_split ?_ ?_ <;> intro _)
  all_goals ((try simp only [decide_eq_true_eq, decide_eq_false_iff_not, Bool.not_eq_true', Bool.not_eq_false'] at *); first | omega | assumption | (intro i hne; exact False.elim hne) | (simp only [drN1, drN2, *, if_true, if_false, Bool.false_eq_true]; done) | (intro i _; by_cases hi : i = 0 <;> simp only [hi, drN1, drN2, *, if_true, if_false]; done) | (intro i hne; by_cases hi : i = 0; (subst hi; simp only [drN1, drN2, *, if_true, if_false, reduceIte, Nat.reduceEqDiff]); (exact absurd (by simp only [hi, if_false]) hne)) | (exfalso; omega))
  all_goals first | assumption | decide | rfl | trace_state
def drG1 (bs : List Int) : Int := verV bs 0 0
def drGs (bs : List Int) : Int := nextS bs (0 + 1 + 1) (verS bs 0 0)
def drGr (bs : List Int) : Int := pickV bs (0 + 1 + 1) (verS bs 0 0) 10
theorem pA10 (a : Int) : pickA a 10 = a + 1 := pA (by omega)
theorem pS10 (bs : List Int) (a s : Int) : pickS bs a s 10 = nextS bs a s := pS (by omega)
theorem pA2 (a : Int) : pickA a 2 = a + 1 := pA (by omega)
theorem pS2 (bs : List Int) (a s : Int) : pickS bs a s 2 = nextS bs a s := pS (by omega)
theorem f22 (bs : List Int) (hb : Byts bs) : Fn Try.prog 22 [.lf true (.sl (bs.map byt))] [] 0 (.tu [I (drG1 bs), I (if okN (drG1 bs) (drGr bs) = true then (if pickV bs (0 + 1 + 1 + 1) (drGs bs) 2 = 0 then nextOf (drG1 bs) (drGr bs) else verV bs (0 + 1 + 1 + 1 + 1) (nextS bs (0 + 1 + 1 + 1) (drGs bs))) else verV bs (0 + 1 + 1 + 1) (drGs bs))]) [] 3 := by
  refine fn_code tab_ok mixed [] Try.func22 rfl rfl (by simp [Try.f22]) (by kernel_rfl) ?_
  simp only [Try.f22]
  repeat' first | (simp only [go_sem, Nat.reduceMul, Nat.reduceAdd, Nat.reduceSub, Nat.reduceEqDiff, ↓reduceIte, Nat.reduceLT, reduceCtorEq, Nat.reduceLeDiff, Int.reduceEq, Int.reduceLT, Int.reduceLE, Nat.reduceBEq, List.length_map, pA12, pS12, pA60, pS60, pA5, pS5, pA10, pS10, pA2, pS2]) | refine And.intro ?_ ?_ | refine Cl_own (ids := [0]) (f68 false _ _ _ ?_ ?_ ?_) rfl rfl (by decide) rfl rfl ?_ | refine Cl_own (ids := [0]) (f69 false _ _ _ _ ?_ ?_ ?_) rfl rfl (by decide) rfl rfl ?_ | refine Cl_own (ids := [0]) (f70 false _ _ _ _ ?_ ?_ ?_) rfl rfl (by decide) rfl rfl ?_ | refine Cl_use0 (f17 _ _) rfl (.inl rfl) ?_ | refine ends_same ?_ | (refine Bs_split ?_ ?_ <;> intro _) | (refine Sp_split ?_ ?_ <;> intro _)
  all_goals ((try simp only [decide_eq_true_eq, decide_eq_false_iff_not, Bool.not_eq_true', Bool.not_eq_false'] at *); first | omega | assumption | (intro i hne; exact False.elim hne) | (simp only [drG1, drGs, drGr, *, if_true, if_false, Bool.false_eq_true]; done) | (intro i _; by_cases hi : i = 0 <;> simp only [hi, drG1, drGs, drGr, *, if_true, if_false]; done) | (intro i hne; by_cases hi : i = 0; (subst hi; simp only [drG1, drGs, drGr, *, if_true, if_false, reduceIte, Nat.reduceEqDiff]); (exact absurd (by simp only [hi, if_false]) hne)) | (exfalso; omega))
  all_goals trace_state
end Go.TL.Ytmmhgioeoikgbaa

import Derived.Test.YteonagfnhdlfcaaGreatDoorG23PpMark
import Derived.Test.YteonagfnhdlfcaaGreatDoorG19PlR1
set_option linter.unusedSimpArgs false
set_option linter.unusedVariables false
set_option maxRecDepth 4000
namespace Go.TL
end Go.TL
namespace Go.TL
def nameB (b : UInt8) : Bool := decide (97 ≤ b.toNat ∧ b.toNat ≤ 122) || decide (48 ≤ b.toNat ∧ b.toNat ≤ 57)
def nameP (s : ByteArray) : Bool := decide (s.size ≤ 12) && s.data.toList.all nameB
def nameSet : ByteArray := ⟨#[97,98,99,100,101,102,103,104,105,106,107,108,109,110,111,112,113,114,115,116,117,118,119,120,121,122,48,49,50,51,52,53,54,55,56,57]⟩
set_option maxRecDepth 100000 in
theorem set_nameB (b : UInt8) : nameSet.data.toList.contains b = nameB b := by
 have h : ∀ n : Fin 256,nameSet.data.toList.contains (UInt8.ofNat n.val) = nameB (UInt8.ofNat n.val) := by decide
 have := h ⟨b.toNat,b.toNat_lt⟩
 simpa using this
theorem dropWhile_nil {p : UInt8 → Bool} {l : List UInt8} : l.dropWhile p = [] ↔ ∀ x ∈ l,p x = true := by
 induction l with
 | nil => simp
 | cons x r ih =>
  by_cases h : p x = true
  ·rw [List.dropWhile_cons_of_pos h,ih]; simp [h]
  ·rw [List.dropWhile_cons_of_neg h]; simp [h]
theorem dropWhile_head {p : UInt8 → Bool} : ∀ {l : List UInt8} {x : UInt8} {r : List UInt8},l.dropWhile p = x :: r → ¬ p x = true
 | [],x,r,h => by simp at h
 | y :: q,x,r,h => by
  by_cases hy : p y = true
  ·rw [List.dropWhile_cons_of_pos hy] at h; exact dropWhile_head h
  ·rw [List.dropWhile_cons_of_neg hy] at h
   cases h; exact hy
theorem trim_nil (l cs : List UInt8) : Go.Lib.trimS l cs = [] ↔ ∀ x ∈ l,cs.contains x = true := by
 unfold Go.Lib.trimS Go.Lib.trimLeftS Go.Lib.trimRightS
 rw [dropWhile_nil]
 constructor
 ·intro h
  have hn : l.reverse.dropWhile (cs.contains ·) = [] := by
   cases hd : l.reverse.dropWhile (cs.contains ·) with
   | nil => rfl
   | cons x r => exact absurd (h x (by rw [hd]; simp)) (dropWhile_head hd)
  intro x hx
  exact dropWhile_nil.1 hn x (by simpa using hx)
 ·intro h x hx
  have hn : l.reverse.dropWhile (cs.contains ·) = [] := dropWhile_nil.2 fun y hy => h y (by simpa using hy)
  rw [hn] at hx; simp at hx
theorem zbL (s : ByteArray) : zaX s = some (nameP s) := by
 unfold zaX nameP
 by_cases h : s.size ≤ 12
 rotate_left
 ·rw [if_neg (by simp; omega)]; simp [h]
 rw [if_pos (by simp; omega)]
 have ht : zdH s nameSet = some (trimB s nameSet) := by
  unfold zdH
  exact guard_pos ⟨by omega,by decide,by decide⟩ _
 have ht' : zdH s (⟨#[97,98,99,100,101,102,103,104,105,106,107,108,109,110,111,112,113,114,115,116,117,118,119,120,121,122,48,49,50,51,52,53,54,55,56,57]⟩ : ByteArray) = some (trimB s nameSet) := ht
 rw [ht']
 simp only [Option.bind_some]
 rw [sEq]
 congr 1
 rw [decide_eq_true h,Bool.true_and,Bool.eq_iff_iff,decide_eq_true_eq,List.all_eq_true]
 have e : trimB s nameSet = ByteArray.empty ↔ Go.Lib.trimS s.data.toList nameSet.data.toList = [] := by
  unfold trimB
  constructor
  ·intro h
   have := congrArg (fun b : ByteArray => b.data.toList) h
   simpa using this
  ·intro h; rw [h]; rfl
 rw [e,trim_nil]
 refine forall_congr' fun x => forall_congr' fun _ => ?_
 rw [set_nameB]
theorem bt_get (s : ByteArray) (i : Nat) (h : i < s.size) : bt s (i : Int) = (((s.data.toList[i]'(by rw [Array.length_toList]; exact h)).toNat : Nat) : Int) := by
 unfold bt
 rw [Int.toNat_natCast]
 have : s[i]? = some (s[i]'h) := by rw [getElem?_pos]
 rw [this]
 rfl
theorem nameB_bt {s : ByteArray} {i : Nat} (h : i < s.size) : nameB (s.data.toList[i]'(by rw [Array.length_toList]; exact h)) = (decide (97 ≤ bt s i ∧ bt s i ≤ 122) || decide (48 ≤ bt s i ∧ bt s i ≤ 57)) := by
 rw [bt_get s i h]
 unfold nameB
 congr 1 <;> (congr 1; apply propext; omega)
theorem zfv (s : ByteArray) (hs : s.size ≤ 9223372036854775807) : zdw s = some (nameP s) := by
 unfold zdw
 have key := all_loop (step := zcx s) (fun i => (⟨i⟩ : zeO)) s.size (fun i => decide (97 ≤ bt s i ∧ bt s i ≤ 122) || decide (48 ≤ bt s i ∧ bt s i ≤ 57))
  (.inr () : Unit ⊕ Unit) (.inl ()) (fun i hi hv => ?_) (fun _ => ?_)
 ·rw [key]
  have e : allN (fun i => decide (97 ≤ bt s (i : Nat) ∧ bt s (i : Nat) ≤ 122) || decide (48 ≤ bt s (i : Nat) ∧ bt s (i : Nat) ≤ 57)) s.size = s.data.toList.all nameB := by
   rw [Bool.eq_iff_iff,allN_iff,List.all_eq_true]
   constructor
   ·intro h x hx
    obtain ⟨i,hi,rfl⟩ := List.getElem_of_mem hx
    have hi' : i < s.size := by rw [Array.length_toList] at hi; exact hi
    rw [nameB_bt hi']; exact h i hi'
   ·intro h i hi
    rw [← nameB_bt hi]; exact h _ (List.getElem_mem _)
  rw [e]
  unfold nameP
  have hsz : decide ((s.size : Int) ≤ 12) = decide (s.size ≤ 12) := by congr 1; apply propext; omega
  cases s.data.toList.all nameB
  ·simp
  ·simp [hsz]
 ·unfold zcx
  simp (disch := omega) only [decide_eq_true_eq,if_pos,guard_pos,wI_id]
  by_cases h1 : bt s i ≥ 97
  ·rw [if_pos h1]
   by_cases h2 : bt s i ≤ 122
   ·rw [if_pos h2]
    simp only [Option.bind_some]
    have hr : (decide (97 ≤ bt s i ∧ bt s i ≤ 122) || decide (48 ≤ bt s i ∧ bt s i ≤ 57)) = true := by simp; omega
    rw [hr]; rfl
   ·have h3 : bt s i ≥ 48 := by omega
    have h4 : ¬ bt s i ≤ 57 := by omega
    have hr : (decide (97 ≤ bt s i ∧ bt s i ≤ 122) || decide (48 ≤ bt s i ∧ bt s i ≤ 57)) = false := by simp; omega
    rw [if_neg h2,hr,decide_eq_false h4]; rfl
  ·rw [if_neg h1]
   by_cases h3 : bt s i ≥ 48
   ·rw [if_pos h3]
    by_cases h4 : bt s i ≤ 57
    ·have hr : (decide (97 ≤ bt s i ∧ bt s i ≤ 122) || decide (48 ≤ bt s i ∧ bt s i ≤ 57)) = true := by simp; omega
     rw [hr,decide_eq_true h4]; rfl
    ·have hr : (decide (97 ≤ bt s i ∧ bt s i ≤ 122) || decide (48 ≤ bt s i ∧ bt s i ≤ 57)) = false := by simp; omega
     rw [hr,decide_eq_false h4]; rfl
   ·have hr : (decide (97 ≤ bt s i ∧ bt s i ≤ 122) || decide (48 ≤ bt s i ∧ bt s i ≤ 57)) = false := by simp; omega
    rw [if_neg h3,hr]; rfl
 ·unfold zcx
  rw [if_neg (by simp)]
def verP (n : Int) : Bool := decide (0 ≤ n ∧ n ≤ 1000000)
end Go.TL
namespace Go.TL
end Go.TL
namespace Go.TL
def nextN (v r : Int) : Int := if v - v.tmod 10 + r ≤ v then v - v.tmod 10 + r + 10 else v - v.tmod 10 + r
def nextP (v r : Int) : Int × Bool := if (0 ≤ v ∧ v ≤ 1000000) ∧ 0 ≤ r ∧ r ≤ 9 then (if 0 ≤ nextN v r ∧ nextN v r ≤ 1000000 then (nextN v r,true) else (0,false)) else (0,false)
theorem tmod10 {v : Int} (h : 0 ≤ v) : 0 ≤ v.tmod 10 ∧ v.tmod 10 ≤ 9 ∧ v.tmod 10 ≤ v := by
 rw [Int.tmod_eq_emod_of_nonneg h]; omega
theorem zgN (v r : Int) : zcH v r = some (nextP v r) := by
 unfold zcH nextP zbf
 simp only [zcK,Option.bind_some]
 by_cases h1 : 0 ≤ v ∧ v ≤ 1000000
 rotate_left
 ·rw [decide_eq_false h1,if_pos (by simp),if_neg (fun h => h1 h.1)]; rfl
 rw [decide_eq_true h1,if_neg (by simp)]
 simp only [Option.bind_some]
 by_cases h2 : 0 ≤ r ∧ r ≤ 9
 rotate_left
 ·rw [decide_eq_false h2,if_pos (by simp),if_neg (fun h => h2 h.2)]
 rw [decide_eq_true h2,if_neg (by simp),if_pos ⟨h1,h2⟩]
 obtain ⟨m1,m2,m3⟩ := tmod10 h1.1
 have e : zew v r = some (nextN v r) := by
  unfold zew nextN
  rw [wI_id (n := v - v.tmod 10) (by omega),wI_id (n := v - v.tmod 10 + r) (by omega),wI_id (by omega)]
  by_cases h : v - v.tmod 10 + r ≤ v
  ·rw [if_pos (decide_eq_true h),if_pos h]
  ·rw [if_neg (by simpa using h),if_neg h]
 rw [e]
 simp only [Option.bind_some]
 by_cases h3 : 0 ≤ nextN v r ∧ nextN v r ≤ 1000000
 ·rw [decide_eq_true h3,if_neg (by simp),if_pos h3]
 ·rw [decide_eq_false h3,if_pos (by simp),if_neg h3]
end Go.TL
namespace Go.TL
def cmpI (a b : Int) : Int := if a < b then -1 else if b < a then 1 else 0
def cmpS (a b : ByteArray) : Int := if sLt a b = true then -1 else if a = b then 0 else 1
theorem zhB (a b : Int) : zaJ a b = some (cmpI a b) := by
 unfold zaJ zd9 cmpI
 simp only [bne_self_eq_false,Option.bind_some,Bool.false_eq_true,if_false,decide_eq_true_eq,gt_iff_lt]
 split
 ·rfl
 ·split <;> rfl
theorem zhY (a b : ByteArray) : zbW a b = some (cmpS a b) := by
 unfold zbW zat cmpS
 simp only [beq_self_eq_true,Bool.not_true,Option.bind_some,Bool.false_eq_true,if_false,sEq]
 cases h : sLt a b
 ·simp only [Bool.false_eq_true,if_false,Bool.false_or]
  by_cases e : a = b
  ·rw [if_pos e,decide_eq_true e]; rfl
  ·rw [if_neg e,decide_eq_false e]; rfl
 ·simp
theorem bLess_nil (a : List UInt8) : bLess a [] = false := by cases a <;> rfl
theorem bLess_irrefl : ∀ l : List UInt8,bLess l l = false
 | [] => rfl
 | x :: r => by simp [bLess,bLess_irrefl r]
theorem bLess_trans : ∀ (a b c : List UInt8),bLess a b = true → bLess b c = true → bLess a c = true
 | a,b,[],_,h => by rw [bLess_nil] at h; cases h
 | a,[],_ :: _,h,_ => by rw [bLess_nil] at h; cases h
 | [],_ :: _,_ :: _,_,_ => rfl
 | x :: r,y :: q,z :: s,h1,h2 => by
  simp only [bLess,Bool.or_eq_true,Bool.and_eq_true,decide_eq_true_eq,beq_iff_eq] at h1 h2 ⊢
  rcases h1 with h1 | ⟨rfl,h1⟩
  ·rcases h2 with h2 | ⟨rfl,h2⟩
   ·exact .inl (UInt8.lt_trans h1 h2)
   ·exact .inl h1
  ·rcases h2 with h2 | ⟨rfl,h2⟩
   ·exact .inl h2
   ·exact .inr ⟨rfl,bLess_trans r q s h1 h2⟩
end Go.TL

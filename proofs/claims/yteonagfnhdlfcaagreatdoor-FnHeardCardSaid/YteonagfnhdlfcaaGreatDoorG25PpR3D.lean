import Derived.Test.YteonagfnhdlfcaaGreatDoorG24PpR2D
import Derived.Test.YteonagfnhdlfcaaGreatDoorG19PlR1
set_option linter.unusedSimpArgs false
set_option linter.unusedVariables false
set_option maxRecDepth 4000
namespace Go.TL
def ok_Event (x : EventT) : Prop := ok_I x.Id ∧ ok_I x.Version ∧ ok_I x.Kind ∧ ok_S x.Name
def ok_LEvent (x : (List EventT)) : Prop := x.length ≤ 9223372036854775807 ∧ ∀ y ∈ x,ok_Event y
def ok_Branch (x : BranchT) : Prop := ok_LEvent x.Events
def ok_LBranch (x : (List BranchT)) : Prop := x.length ≤ 9223372036854775807 ∧ ∀ y ∈ x,ok_Branch y
def ok_Tellings (x : TellingsT) : Prop := ok_LBranch x.Branches
end Go.TL
namespace Go.TL
theorem bLess_tri : ∀ a b : List UInt8,bLess a b = true ∨ a = b ∨ bLess b a = true
 | [],[] => .inr (.inl rfl)
 | [],_ :: _ => .inl rfl
 | _ :: _,[] => .inr (.inr rfl)
 | x :: r,y :: q => by
  simp only [bLess,Bool.or_eq_true,Bool.and_eq_true,decide_eq_true_eq,beq_iff_eq,List.cons.injEq]
  rcases Nat.lt_trichotomy x.toNat y.toNat with h | h | h
  ·exact .inl (.inl (UInt8.lt_iff_toNat_lt.2 h))
  ·have e : x = y := UInt8.toNat_inj.1 h
   subst e
   rcases bLess_tri r q with h | h | h
   ·exact .inl (.inr ⟨rfl,h⟩)
   ·exact .inr (.inl ⟨rfl,h⟩)
   ·exact .inr (.inr (.inr ⟨rfl,h⟩))
  ·exact .inr (.inr (.inl (UInt8.lt_iff_toNat_lt.2 h)))
theorem sLt_irrefl (a : ByteArray) : sLt a a = false := bLess_irrefl _
theorem sLt_trans {a b c : ByteArray} (h1 : sLt a b = true) (h2 : sLt b c = true) : sLt a c = true := bLess_trans _ _ _ h1 h2
theorem sLt_asym {a b : ByteArray} (h : sLt a b = true) : sLt b a = false := by
 cases h2 : sLt b a with
 | false => rfl
 | true => have := sLt_trans h h2; rw [sLt_irrefl] at this; cases this
theorem sLt_tri (a b : ByteArray) : sLt a b = true ∨ a = b ∨ sLt b a = true := by
 rcases bLess_tri a.toList b.toList with h | h | h
 ·exact .inl h
 ·exact .inr (.inl (bytes_inj h))
 ·exact .inr (.inr h)
theorem sGt (a b : ByteArray) : (!(sLt a b || a.toList == b.toList)) = sLt b a := by
 rw [sEq]
 rcases sLt_tri a b with h | h | h
 ·simp [h,sLt_asym h]
 ·subst h; simp [sLt_irrefl]
 ·have hn : a ≠ b := fun e => by subst e; rw [sLt_irrefl] at h; cases h
  simp [h,sLt_asym h,hn]
def hasS (l : List ByteArray) (s : ByteArray) : Bool := l.any fun x => decide (x = s)
theorem hasS_iff {l : List ByteArray} {s : ByteArray} : hasS l s = true ↔ s ∈ l := by
 unfold hasS
 rw [List.any_eq_true]
 exact ⟨fun ⟨x,h1,h2⟩ => by rw [decide_eq_true_eq] at h2; rw [← h2]; exact h1,fun h => ⟨s,h,by simp⟩⟩
def atS (l : List ByteArray) (s : ByteArray) : Option Nat := findN (fun i => decide (nth l i = s)) l.length
theorem atS_isSome (l : List ByteArray) (s : ByteArray) : (atS l s).isSome = hasS l s := findN_any l fun x => decide (x = s)
theorem zhZ (l : List ByteArray) (s : ByteArray) (hl : l.length ≤ 9223372036854775807) : zbg l s = some (match atS l s with | some i => (i : Int) | none => -1) := by
 unfold zbg
 have key := find_loop (step := zc5 l s) (fun i => (⟨i⟩ : ze7)) l.length (fun i => decide (nth l i = s)) (fun i => (.inl ⟨i⟩ : zga ⊕ Unit)) (.inr ()) (fun i hi hv => ?_) ?_
 ·rw [key]
  unfold atS
  cases findN (fun i => decide (nth l i = s)) l.length <;> rfl
 ·unfold zc5
  simp (disch := omega) only [decide_eq_true_eq,if_pos,guard_pos,Int.toNat_natCast,wI_id,Option.bind_some,sEq]
  by_cases h : nth l i = s
  ·rw [if_pos h,if_pos h]
  ·rw [if_neg h,if_neg h]; rfl
 ·unfold zc5
  rw [if_neg (by simp)]
theorem zc8 (l : List ByteArray) (s : ByteArray) (hl : l.length ≤ 9223372036854775807) : ∃ k,zbg l s = some k ∧ decide (k ≥ 0) = hasS l s := by
 refine ⟨_,zhZ l s hl,?_⟩
 rw [← atS_isSome]
 cases atS l s with
 | none => rfl
 | some i => simp
theorem containsS_eq (l : List ByteArray) (s : ByteArray) (hl : l.length ≤ 9223372036854775807) : zF l s = some (hasS l s) := by
 unfold zF zcT
 have key := find_loop (step := zaf l s) (fun i => (⟨i⟩ : zbR)) l.length (fun i => decide (nth l i = s)) (fun i => (.inl ⟨i⟩ : zex ⊕ Unit)) (.inr ()) (fun i hi hv => ?_) ?_
 ·rw [key,← atS_isSome]
  unfold atS
  cases findN (fun i => decide (nth l i = s)) l.length <;> simp
 ·unfold zaf
  simp (disch := omega) only [decide_eq_true_eq,if_pos,guard_pos,Int.toNat_natCast,wI_id,Option.bind_some,sEq]
  by_cases h : nth l i = s
  ·rw [if_pos h.symm,if_pos h]
  ·rw [if_neg (fun e => h e.symm),if_neg h]; rfl
 ·unfold zaf
  rw [if_neg (by simp)]
theorem nth_take {α : Type} [Inhabited α] {l : List α} {i k : Nat} (h : k < i) : nth (l.take i) k = nth l k := by
 unfold nth
 rw [List.getD_eq_getElem?_getD,List.getD_eq_getElem?_getD,List.getElem?_take_of_lt h]
def okL (r : Bool) (l : List ByteArray) : Bool :=
 decide (l.length ≤ 30) && allN (fun i => nameP (nth l i) && allN (fun k => !decide (nth l k = nth l i) && (!r || !decide (k + 1 = i) || !sLt (nth l i) (nth l k))) i) l.length
theorem zfT (r : Bool) (l : List ByteArray) (hl : ok_LS l) : zc6 l r = some (okL r l) := by
 have h1 := hl.1
 unfold zc6 okL
 have key := all_loop (step := zbF l r) (fun i => (⟨i⟩ : zbD)) l.length (fun i => nameP (nth l i) && allN (fun k => !decide (nth l k = nth l i) && (!r || !decide (k + 1 = i) || !sLt (nth l i) (nth l k))) i) (.inr () : Unit ⊕ Unit) (.inl ()) (fun i hi hv => ?_) (fun _ => ?_)
 ·rw [key]
  have hsz : decide (((l.length : Nat) : Int) ≤ 30) = decide (l.length ≤ 30) := by congr 1; apply propext; omega
  cases allN (fun i => nameP (nth l i) && allN (fun k => !decide (nth l k = nth l i) && (!r || !decide (k + 1 = i) || !sLt (nth l i) (nth l k))) i) l.length
  ·simp
  ·simp [hsz]
 ·have hm : ok_S (nth l i) := hl.2 _ (nth_mem hi)
  unfold zbF
  rw [if_pos (by simp; omega),guard_pos (by simp; omega)]
  simp only [Int.toNat_natCast]
  rw [zfv _ hm]
  simp only [Option.bind_some]
  cases hn : nameP (nth l i)
  ·simp
  have ht : (l.take i).length = i := by rw [List.length_take]; omega
  rw [if_neg (by simp),guard_pos (by simp; omega)]
  have key2 := all_loop (step := zbE l (⟨(i : Int)⟩ : zbD) r) (fun k => (⟨k⟩ : zd2)) i (fun k => !decide (nth l k = nth l i) && (!r || !decide (k + 1 = i) || !sLt (nth l i) (nth l k))) (.inr () : Unit ⊕ Unit) (.inl ()) (fun k hk _ => ?_) (fun _ => ?_)
  ·rw [key2,Bool.true_and]
   cases allN (fun k => !decide (nth l k = nth l i) && (!r || !decide (k + 1 = i) || !sLt (nth l i) (nth l k))) i
   ·simp
   ·simp (disch := omega) [wI_id]
  ·unfold zbE
   simp only [Int.toNat_natCast,ht]
   rw [if_pos (by simp; omega),guard_pos (by omega)]
   simp (disch := omega) only [nth_take hk,sGt,wI_id]
   rw [sEq]
   have ek : (((k : Int)) == (i : Int) - 1) = decide (k + 1 = i) := by
    rw [Bool.eq_iff_iff,beq_iff_eq,decide_eq_true_eq]; omega
   rw [ek]
   by_cases he : nth l k = nth l i
   ·simp [he]
   ·cases r
    ·simp [he]
    ·by_cases h2 : k + 1 = i
     ·cases h3 : sLt (nth l i) (nth l k) <;> (simp [he,h2,h3]; try omega)
     ·simp [he,h2]
  ·unfold zbE
   simp only [Int.toNat_natCast,ht]
   rw [if_neg (by simp)]
 ·unfold zbF
  rw [if_neg (by simp)]
theorem zgb (l : List ByteArray) (hl : l.length ≤ 9223372036854775807) : zdM l 30 = some (decide (l.length ≤ 30) && l.all nameP) := by
 unfold zdM
 by_cases h : l.length ≤ 30
 rotate_left
 ·rw [if_neg (by simp; omega)]; simp [h]
 rw [if_pos (by simp; omega)]
 unfold zL zQ
 have key := find_loop (step := zh l) (fun i => (⟨i⟩ : zK)) l.length (fun i => !nameP (nth l i)) (fun i => (.inl ⟨i⟩ : zaS ⊕ Unit)) (.inr ()) (fun i hi hv => ?_) ?_
 ·rw [key]
  have e := findN_any l fun x => !nameP x
  have e2 : (l.any fun x => !nameP x) = !l.all nameP := by
   rw [Bool.eq_iff_iff]; simp
  rw [e2] at e
  cases hf : findN (fun i => !nameP (nth l i)) l.length with
  | none => rw [hf] at e; simp at e; simp [h]; exact e
  | some i => rw [hf] at e; simp at e; simp [h]; exact e
 ·unfold zh zem
  simp (disch := omega) only [decide_eq_true_eq,if_pos,guard_pos,Int.toNat_natCast,wI_id,Option.bind_some,zbL]
  cases nameP (nth l i) <;> rfl
 ·unfold zh
  rw [if_neg (by simp)]
def dstB (l : List ByteArray) : Bool := allN (fun i => !hasS (l.take i) (nth l i)) l.length
theorem zfU (l : List ByteArray) (hl : l.length ≤ 9223372036854775807) : zc7 l = some (dstB l) := by
 unfold zc7 dstB
 have key := all_loop (step := zbG l) (fun i => (⟨i⟩ : zd3)) l.length (fun i => !hasS (l.take i) (nth l i)) (.inr () : Unit ⊕ Unit) (.inl ()) (fun i hi hv => ?_) (fun _ => ?_)
 ·rw [key]
  cases allN (fun i => !hasS (l.take i) (nth l i)) l.length <;> simp
 ·unfold zbG
  rw [if_pos (by simp; omega),guard_pos (by simp; omega),guard_pos (by simp; omega)]
  simp only [Int.toNat_natCast]
  rw [containsS_eq _ _ (by rw [List.length_take]; omega)]
  simp only [Option.bind_some]
  rw [wI_id (by omega)]
  cases hasS (l.take i) (nth l i) <;> rfl
 ·unfold zbG
  rw [if_neg (by simp)]
theorem cmpLess_eq (a b : ByteArray) : zb3 a b = some (sLt a b) := by
 unfold zb3 zat
 simp
def srtB (l : List ByteArray) : Bool := allN (fun i => decide (i = 0) || !sLt (nth l i) (nth l (i - 1))) l.length
theorem zhp (l : List ByteArray) (hl : l.length ≤ 9223372036854775807) : zaT l = some (srtB l) := by
 have key : ∀ m : Nat,m < l.length → (∀ j,m < j → j < l.length → (decide (j = 0) || !sLt (nth l j) (nth l (j - 1))) = true) → loopF (zC l) ⟨(m : Int)⟩ = some (if srtB l = true then .inr () else .inl ()) := by
  intro m
  induction m with
  | zero =>
   intro hm hv
   have hs : srtB l = true := allN_iff.2 fun i hi => by
    by_cases h0 : i = 0
    ·simp [h0]
    ·exact hv i (by omega) hi
   rw [loop_out (r := .inr ()) (by unfold zC; rw [if_neg (by simp)]),if_pos hs]
  | succ m ih =>
   intro hm hv
   have h1 : zC l ⟨((m + 1 : Nat) : Int)⟩ = some (if sLt (nth l (m + 1)) (nth l m) = true then .inr (.inl ()) else .inl ⟨(m : Int)⟩) := by
    unfold zC
    have e : wI (((m + 1 : Nat) : Int) - 1) = (m : Int) := by rw [wI_id (by omega)]; omega
    simp only [e,Int.toNat_natCast]
    rw [if_pos (by simp),guard_pos (by omega),guard_pos (by omega),cmpLess_eq]
    simp only [Option.bind_some]
    split <;> rfl
   by_cases hc : sLt (nth l (m + 1)) (nth l m) = true
   ·rw [if_pos hc] at h1
    have hs : ¬ srtB l = true := fun h => by
     have := allN_iff.1 h (m + 1) hm
     simp [hc] at this
    rw [loop_out h1,if_neg hs]
   ·rw [if_neg hc] at h1
    rw [loop_on h1]
    exact ih (by omega) fun j hj hjl => by
     by_cases e : j = m + 1
     ·subst e; simp at hc; simp [hc]
     ·exact hv j (by omega) hjl
 unfold zaT
 rcases Nat.eq_zero_or_pos l.length with h0 | h0
 ·have hs : srtB l = true := allN_iff.2 fun i hi => by omega
  rw [h0]
  have e : wI (((0 : Nat) : Int) - 1) = -1 := by rw [wI_id (by omega)]; rfl
  rw [e,loop_out (r := .inr ()) (by unfold zC; rw [if_neg (by decide)]),hs]
  rfl
 ·have e : wI (((l.length : Nat) : Int) - 1) = ((l.length - 1 : Nat) : Int) := by rw [wI_id (by omega)]; omega
  rw [e,key (l.length - 1) (by omega) fun j hj hjl => by omega]
  cases srtB l <;> rfl
theorem okL_false (l : List ByteArray) : okL false l = ((decide (l.length ≤ 30) && l.all nameP) && dstB l) := by
 unfold okL dstB
 rw [← allN_nth l nameP,Bool.eq_iff_iff]
 simp only [Bool.and_eq_true,allN_iff,Bool.not_false,Bool.true_or,and_true,Bool.not_eq_true',← Bool.not_eq_true,hasS_iff,decide_eq_true_eq]
 constructor
 ·rintro ⟨h1,h2⟩
  refine ⟨⟨h1,fun i hi => (h2 i hi).1⟩,fun i hi hm => ?_⟩
  obtain ⟨k,hk,e⟩ := List.getElem_of_mem hm
  rw [List.length_take] at hk
  rw [← nth_eq (by rw [List.length_take]; omega),nth_take (by omega)] at e
  exact (h2 i hi).2 k (by omega) e
 ·rintro ⟨⟨h1,h2⟩,h3⟩
  refine ⟨h1,fun i hi => ⟨h2 i hi,fun k hk e => h3 i hi ?_⟩⟩
  rw [← e,← nth_take hk]
  exact nth_mem (by rw [List.length_take]; omega)
theorem okL_true (l : List ByteArray) : okL true l = (((decide (l.length ≤ 30) && l.all nameP) && srtB l) && dstB l) := by
 have e : okL true l = (okL false l && srtB l) := by
  unfold okL srtB
  rw [Bool.eq_iff_iff]
  simp only [Bool.and_eq_true,allN_iff,Bool.not_false,Bool.true_or,and_true,Bool.not_true,Bool.false_or,Bool.or_eq_true]
  constructor
  ·rintro ⟨h1,h2⟩
   refine ⟨⟨h1,fun i hi => ⟨(h2 i hi).1,fun k hk => ((h2 i hi).2 k hk).1⟩⟩,fun i hi => ?_⟩
   by_cases h0 : i = 0
   ·exact .inl (by simp [h0])
   ·have := ((h2 i hi).2 (i - 1) (by omega)).2
    rw [decide_eq_true (by omega : i - 1 + 1 = i)] at this
    exact .inr (by simpa using this)
  ·rintro ⟨⟨h1,h2⟩,h3⟩
   refine ⟨h1,fun i hi => ⟨(h2 i hi).1,fun k hk => ⟨(h2 i hi).2 k hk,?_⟩⟩⟩
   by_cases h0 : k + 1 = i
   ·have := h3 i hi
    subst h0
    simpa using this
   ·exact .inl (by simp [h0])
 rw [e,okL_false]
 cases decide (l.length ≤ 30) <;> cases l.all nameP <;> cases dstB l <;> cases srtB l <;> rfl
def goodS (s : StateT) : Bool := decide (1 ≤ s.Next ∧ s.Next ≤ 1001) && decide (0 ≤ s.Done ∧ s.Done ≤ 1000) && decide (0 ≤ s.Status ∧ s.Status ≤ 2) && okL false s.Signals && okL true s.Timers &&
 (if s.Status = 0 then decide (s.Next = 1) && !s.Cancel && decide (s.Done = 0) && decide (s.Signals = []) && decide (s.Timers = []) else decide (1 < s.Next))
theorem len0 (l : List ByteArray) : (((l.length : Nat) : Int) == 0) = decide (l = []) := by
 cases l <;> simp
 omega
theorem zg5 (s : StateT) (h1 : ok_LS s.Signals) (h2 : ok_LS s.Timers) : zcz s = some (goodS s) := by
 unfold zcz goodS
 simp only [zcK,zfT _ _ h1,zfT _ _ h2,Option.bind_some,len0]
 generalize decide (1 ≤ s.Next ∧ s.Next ≤ 1001) = b1
 generalize decide (0 ≤ s.Done ∧ s.Done ≤ 1000) = b2
 generalize decide (0 ≤ s.Status ∧ s.Status ≤ 2) = b3
 generalize okL false s.Signals = b4
 generalize okL true s.Timers = b5
 cases b1 <;> cases b2 <;> cases b3 <;> cases b4 <;> cases b5 <;> simp
 by_cases h0 : s.Status = 0
 ·by_cases hn : s.Next = 1
  ·by_cases hd : s.Done = 0 <;> cases s.Cancel <;> by_cases hs : s.Signals = [] <;> simp [h0,hn,hd,hs]
  ·simp [h0,hn]
 ·simp [h0]
theorem zcg (s : StateT) (h1 : s.Signals.length ≤ 9223372036854775807) (h2 : s.Timers.length ≤ 9223372036854775807) : za3 s = some (goodS s) := by
 unfold za3 goodS
 rw [okL_false,okL_true]
 simp only [zdl,zgb _ h1,zgb _ h2,zfU _ h1,zfU _ h2,zhp _ h2,Option.bind_some,len0]
 generalize decide (1 ≤ s.Next ∧ s.Next ≤ 1001) = b1
 generalize decide (0 ≤ s.Done ∧ s.Done ≤ 1000) = b2
 generalize decide (0 ≤ s.Status ∧ s.Status ≤ 2) = b3
 generalize (decide (s.Signals.length ≤ 30) && s.Signals.all nameP) = b4
 generalize (decide (s.Timers.length ≤ 30) && s.Timers.all nameP) = b5
 generalize dstB s.Signals = b6
 generalize dstB s.Timers = b7
 generalize srtB s.Timers = b8
 cases b1
 ·simp
 cases b2
 ·simp
 cases b3
 ·simp
 cases b4
 ·simp
 cases b6
 ·simp
 cases b5
 ·simp
 cases b8
 ·simp
 cases b7
 ·simp
 simp
 by_cases h0 : s.Status = 0
 ·by_cases hn : s.Next = 1
  ·by_cases hd : s.Done = 0 <;> cases s.Cancel <;> by_cases hs : s.Signals = [] <;> simp [h0,hn,hd,hs]
  ·simp [h0,hn]
 ·simp [h0]
end Go.TL
namespace Go.TL
theorem okL_len {r : Bool} {l : List ByteArray} (h : okL r l = true) : l.length ≤ 30 := by
 unfold okL at h
 simp only [Bool.and_eq_true,decide_eq_true_eq] at h
 exact h.1
theorem okL_mem {r : Bool} {l : List ByteArray} (h : okL r l = true) {x : ByteArray} (hx : x ∈ l) : x.size ≤ 12 := by
 unfold okL at h
 simp only [Bool.and_eq_true,allN_iff] at h
 obtain ⟨i,hi,rfl⟩ := List.getElem_of_mem hx
 have := (h.2 i hi).1
 rw [nth_eq hi] at this
 unfold nameP at this
 simp only [Bool.and_eq_true,decide_eq_true_eq] at this
 exact this.1
theorem okL_ok {r : Bool} {l : List ByteArray} (h : okL r l = true) : ok_LS l := by
 have := okL_len h
 exact ⟨by omega,fun y hy => by have := okL_mem h hy; show y.size ≤ _; omega⟩
theorem okL_asc {l : List ByteArray} (h : okL true l = true) : ∀ (j i : Nat),i < j → j < l.length → sLt (nth l i) (nth l j) = true := by
 unfold okL at h
 simp only [Bool.and_eq_true,allN_iff,Bool.not_true,Bool.false_or,Bool.or_eq_true,Bool.not_eq_true',decide_eq_false_iff_not] at h
 intro j
 induction j with
 | zero => intro i hi; omega
 | succ j ih =>
  intro i hi hj
  have hd := (h.2 (j + 1) hj).2 j (by omega)
  have hs : sLt (nth l j) (nth l (j + 1)) = true := by
   rcases sLt_tri (nth l j) (nth l (j + 1)) with h1 | h1 | h1
   ·exact h1
   ·exact absurd h1 hd.1
   ·rcases hd.2 with h2 | h2
    ·exact absurd rfl h2
    ·rw [h2] at h1; cases h1
  by_cases e : i = j
  ·rw [e]; exact hs
  ·exact sLt_trans (ih i (by omega) (by omega)) hs
def turnP (l : List ByteArray) (x : ByteArray) : List ByteArray :=
 if hasS l x = true then l.filter (fun y => !decide (y = x)) else l.takeWhile (fun y => sLt y x) ++ x :: l.dropWhile (fun y => sLt y x)
def tfold (x : ByteArray) : List ByteArray → Bool → List ByteArray → Bool × List ByteArray
 | [],p,c => (p,c)
 | y :: r,p,c => if y = x then tfold x r p c else if (!p && sLt x y) = true then tfold x r true (c ++ [x] ++ [y]) else tfold x r p (c ++ [y])
set_option maxHeartbeats 1000000 in
theorem timer_loop (l : List ByteArray) (x : ByteArray) (hl : l.length ≤ 30) : ∀ (r : List ByteArray) (i : Nat) (p : Bool) (c : List ByteArray),l.drop i = r → i ≤ l.length → c.length ≤ 2 * i →
  loopF (zS l x) ⟨p,(i : Int),c⟩ = some ⟨(tfold x r p c).1,(tfold x r p c).2⟩ := by
 intro r
 induction r with
 | nil =>
  intro i p c hd hi hc
  have hi' : i = l.length := by
   have := congrArg List.length hd
   rw [List.length_drop,List.length_nil] at this
   omega
  subst hi'
  exact loop_out (by unfold zS; rw [if_neg (by simp)]; rfl)
 | cons y r ih =>
  intro i p c hd hi hc
  have hlt : i < l.length := by
   have := congrArg List.length hd
   rw [List.length_drop,List.length_cons] at this
   omega
  have hy : nth l i = y := by
   rw [nth_eq hlt]
   have := List.drop_eq_getElem_cons hlt
   rw [hd] at this
   exact (List.cons.inj this).1.symm
  have hr : l.drop (i + 1) = r := by
   have := List.drop_eq_getElem_cons hlt
   rw [hd] at this
   exact (List.cons.inj this).2.symm
  have hstep : zS l x ⟨p,(i : Int),c⟩ = some (.inl (if y = x then ⟨p,((i + 1 : Nat) : Int),c⟩ else if (!p && sLt x y) = true then ⟨true,((i + 1 : Nat) : Int),c ++ [x] ++ [y]⟩ else ⟨p,((i + 1 : Nat) : Int),c ++ [y]⟩)) := by
   unfold zS
   have e1 : wI ((i : Int) + 1) = ((i + 1 : Nat) : Int) := by rw [wI_id (by omega)]; omega
   simp only [Int.toNat_natCast,hy,e1,sGt]
   rw [if_pos (by simp; omega),guard_pos (by omega),sEq]
   by_cases he : y = x
   ·rw [if_pos (by simp [he]),if_pos he]
   ·rw [if_neg (by simp [he]),if_neg he]
    have hg1 : (c.length + 1) * 16 ≤ 140737488355328 := by omega
    have hg2 : (c.length + 1 + 1) * 16 ≤ 140737488355328 := by omega
    cases p
    ·cases h : sLt x y
     ·simp [guard_pos hg1]
     ·simp [guard_pos hg1,guard_pos hg2]
    ·simp [guard_pos hg1]
  rw [loop_on hstep]
  unfold tfold
  by_cases he : y = x
  ·rw [if_pos he,if_pos he]; exact ih (i + 1) p c hr (by omega) (by omega)
  ·rw [if_neg he,if_neg he]
   split
   ·exact ih (i + 1) true _ hr (by omega) (by simp only [List.length_append,List.length_singleton]; omega)
   ·exact ih (i + 1) p _ hr (by omega) (by simp only [List.length_append,List.length_singleton]; omega)
theorem tfold_true (x : ByteArray) : ∀ (r c : List ByteArray),tfold x r true c = (true,c ++ r.filter fun y => !decide (y = x))
 | [],c => by simp [tfold]
 | y :: r,c => by
  unfold tfold
  by_cases he : y = x
  ·rw [if_pos he,tfold_true x r c]; simp [he]
  ·rw [if_neg he,if_neg (by simp),tfold_true x r]; simp [he]
theorem filter_ne {x : ByteArray} {r : List ByteArray} (h : x ∉ r) : (r.filter fun y => !decide (y = x)) = r := by
 rw [List.filter_eq_self]
 intro y hy
 simp only [Bool.not_eq_true',decide_eq_false_iff_not]
 intro e; subst e; exact h hy
theorem tfold_false (x : ByteArray) : ∀ (r c : List ByteArray),x ∉ r →
  (if (!(tfold x r false c).1) = true then (tfold x r false c).2 ++ [x] else (tfold x r false c).2) = c ++ (r.takeWhile (fun y => sLt y x) ++ x :: r.dropWhile fun y => sLt y x)
 | [],c,_ => by simp [tfold]
 | y :: r,c,h => by
  have hne : y ≠ x := fun e => h (by simp [e])
  have hr : x ∉ r := fun e => h (List.mem_cons_of_mem _ e)
  unfold tfold
  rw [if_neg hne]
  rcases sLt_tri y x with h1 | h1 | h1
  ·have h2 := sLt_asym h1
   have e : (!false && sLt x y) = false := by simp [h2]
   simp only [e,Bool.false_eq_true,if_false]
   rw [tfold_false x r (c ++ [y]) hr]
   simp [h1]
  ·exact absurd h1 hne
  ·have h2 := sLt_asym h1
   have e : (!false && sLt x y) = true := by simp [h1]
   simp only [e,if_true]
   rw [tfold_true,filter_ne hr]
   simp [h2]
theorem tfold_len (x : ByteArray) : ∀ (r c : List ByteArray) (p : Bool),(tfold x r p c).2.length ≤ c.length + 2 * r.length
 | [],c,p => by simp [tfold]
 | y :: r,c,p => by
  unfold tfold
  split
  ·have := tfold_len x r c p; simp only [List.length_cons]; omega
  ·split
   ·have := tfold_len x r (c ++ [x] ++ [y]) true; simp only [List.length_cons,List.length_append,List.length_nil] at this ⊢; omega
   ·have := tfold_len x r (c ++ [y]) p; simp only [List.length_cons,List.length_append,List.length_nil] at this ⊢; omega
theorem zhq (l : List ByteArray) (x : ByteArray) (hl : l.length ≤ 30) : zbv l x = some (turnP l x) := by
 unfold zbv turnP
 obtain ⟨k,hk,hp⟩ := zc8 l x (by omega)
 rw [hk]
 simp only [Option.bind_some]
 rw [hp]
 have := timer_loop l x hl l 0 (hasS l x) [] rfl (by omega) (by simp)
 rw [show ((0 : Nat) : Int) = 0 from rfl] at this
 rw [this]
 simp only [Option.bind_some]
 have hlen := tfold_len x l [] (hasS l x)
 simp only [List.length_nil,Nat.zero_add] at hlen
 rw [guard_pos (by omega)]
 cases h : hasS l x
 ·have hm : x ∉ l := fun e => by rw [hasS_iff.2 e] at h; cases h
  have := tfold_false x l [] hm
  simp only [List.nil_append] at this
  simp only [Bool.false_eq_true,if_false]
  rw [← this]
  split <;> rfl
 ·rw [tfold_true]
  simp
theorem half_eq {a b : Nat} (h : a + b ≤ 100) : wI (shR 64 (wU (wI ((a : Int) + (b : Int)))) 1) = (((a + b) / 2 : Nat) : Int) := by
 have e0 : wI ((a : Int) + (b : Int)) = (a : Int) + (b : Int) := wI_id (by omega)
 have e1 : wU ((a : Int) + (b : Int)) = (a : Int) + (b : Int) := wU_id (by omega)
 rw [e0,e1]
 unfold shR
 have e : (min (1 : Int).toNat 64) = 1 := rfl
 rw [e]
 have : (((a : Int) + (b : Int)).fdiv (2 ^ 1)) = (((a + b) / 2 : Nat) : Int) := by
  rw [Int.fdiv_eq_ediv_of_nonneg _ (by decide)]
  omega
 rw [this,wI_id (by omega)]
theorem search_loop (l : List ByteArray) (x : ByteArray) (hl : l.length ≤ 30) (hs : okL true l = true) : ∀ (n lo hi : Nat),hi - lo = n → lo ≤ hi → hi ≤ l.length → (∀ j,j < lo → sLt (nth l j) x = true) → (∀ j,hi ≤ j → j < l.length → sLt (nth l j) x = false) →
  ∃ k : Nat,loopF (zy l x) ⟨(lo : Int),(hi : Int)⟩ = some ⟨(k : Int)⟩ ∧ k ≤ l.length ∧ (∀ j : Nat,j < k → sLt (nth l j) x = true) ∧ ∀ j,k ≤ j → j < l.length → sLt (nth l j) x = false := by
 intro n
 induction n using Nat.strongRecOn with
 | _ n ih =>
  intro lo hi hn hle hhi h1 h2
  by_cases hlt : lo < hi
  ·have hstep : zy l x ⟨(lo : Int),(hi : Int)⟩ = some (.inl (if sLt (nth l ((lo + hi) / 2)) x = true then ⟨(((lo + hi) / 2 + 1 : Nat) : Int),(hi : Int)⟩ else ⟨(lo : Int),(((lo + hi) / 2 : Nat) : Int)⟩)) := by
    unfold zy
    simp only [half_eq (show lo + hi ≤ 100 by omega),Int.toNat_natCast]
    rw [if_pos (by simp; omega),guard_pos (by omega),cmpLess_eq]
    simp only [Option.bind_some]
    rw [wI_id (n := (((lo + hi) / 2 : Nat) : Int) + 1) (by omega)]
    split <;> rfl
   have hmid : (lo + hi) / 2 < l.length := by omega
   rw [loop_on hstep]
   by_cases hc : sLt (nth l ((lo + hi) / 2)) x = true
   ·rw [if_pos hc]
    refine ih _ (by omega) ((lo + hi) / 2 + 1) hi rfl (by omega) hhi (fun j hj => ?_) h2
    by_cases e : j = (lo + hi) / 2
    ·rw [e]; exact hc
    ·exact sLt_trans (okL_asc hs _ j (by omega) hmid) hc
   ·rw [if_neg hc]
    refine ih _ (by omega) lo ((lo + hi) / 2) rfl (by omega) (by omega) h1 (fun j hj hjl => ?_)
    by_cases e : j = (lo + hi) / 2
    ·rw [e]; simpa using hc
    ·cases h : sLt (nth l j) x with
     | false => rfl
     | true => exact absurd (sLt_trans (okL_asc hs j ((lo + hi) / 2) (by omega) hjl) h) hc
  ·have e : lo = hi := by omega
   subst e
   refine ⟨lo,loop_out ?_,hhi,h1,h2⟩
   unfold zy
   rw [if_neg (by simp)]
theorem take_while {p : ByteArray → Bool} : ∀ {l : List ByteArray} {k : Nat},k ≤ l.length → (∀ j,j < k → p (nth l j) = true) → (∀ j,k ≤ j → j < l.length → p (nth l j) = false) → l.takeWhile p = l.take k ∧ l.dropWhile p = l.drop k
 | [],k,hk,h1,h2 => by simp
 | y :: r,0,hk,h1,h2 => by
  have := h2 0 (by omega) (by simp)
  have e : nth (y :: r) 0 = y := rfl
  rw [e] at this
  simp [this]
 | y :: r,k + 1,hk,h1,h2 => by
  have := h1 0 (by omega)
  have e : nth (y :: r) 0 = y := rfl
  rw [e] at this
  obtain ⟨h3,h4⟩ := take_while (p := p) (l := r) (k := k) (by simpa using hk) (fun j hj => h1 (j + 1) (by omega)) (fun j hj hl => h2 (j + 1) (by omega) (by simpa using hl))
  simp [this,h3,h4]
theorem search_eq (l : List ByteArray) (x : ByteArray) (hs : okL true l = true) : ∃ k : Nat,zae l x = some ((k : Int),hasS l x) ∧ k ≤ l.length ∧ (hasS l x = true → k < l.length) ∧
  turnP l x = if hasS l x = true then l.take k ++ l.drop (k + 1) else l.take k ++ [x] ++ l.drop k := by
 have hl := okL_len hs
 obtain ⟨k,hk,hkl,h1,h2⟩ := search_loop l x hl hs l.length 0 l.length (by omega) (by omega) (Nat.le_refl _) (fun j hj => by omega) (fun j hj hj2 => by omega)
 obtain ⟨e1,e2⟩ := take_while (p := fun y => sLt y x) hkl h1 h2
 have hx : hasS l x = true ↔ k < l.length ∧ nth l k = x := by
  rw [hasS_iff]
  constructor
  ·intro hm
   obtain ⟨m,hm1,rfl⟩ := List.getElem_of_mem hm
   have hnm : nth l m = l[m] := nth_eq hm1
   have hmk : k ≤ m := by
    rcases Nat.lt_or_ge m k with h | h
    ·have := h1 m h; rw [hnm,sLt_irrefl] at this; cases this
    ·exact h
   have : k = m := by
    rcases Nat.lt_or_ge k m with h | h
    ·have h3 := okL_asc hs m k h hm1
     rw [hnm] at h3
     have h4 := h2 k (Nat.le_refl _) (by omega)
     rw [h4] at h3; cases h3
    ·omega
   subst this
   exact ⟨hm1,hnm⟩
  ·rintro ⟨h3,h4⟩
   rw [← h4]; exact nth_mem h3
 refine ⟨k,?_,hkl,fun h => (hx.1 h).1,?_⟩
 ·unfold zae
  rw [show (0 : Int) = ((0 : Nat) : Int) from rfl,hk]
  simp only [Option.bind_some,Int.toNat_natCast]
  by_cases h3 : k < l.length
  ·rw [if_pos (by simp; omega),guard_pos (by omega),sEq]
   by_cases h4 : nth l k = x
   ·rw [if_pos (by simp [h4]),hx.2 ⟨h3,h4⟩]
   ·rw [if_neg (by simp [h4]),guard_pos (by omega)]
    have hf : hasS l x = false := by
     cases h : hasS l x with
     | false => rfl
     | true => exact absurd (hx.1 h).2 h4
    unfold zbB
    simp [hf]
  ·rw [if_neg (by simp; omega)]
   have hf : hasS l x = false := by
    cases h : hasS l x with
    | false => rfl
    | true => exact absurd (hx.1 h).1 h3
   rw [hf]
 ·unfold turnP
  by_cases h : hasS l x = true
  ·rw [if_pos h,if_pos h]
   obtain ⟨h3,h4⟩ := hx.1 h
   have hl2 : l = l.take k ++ x :: l.drop (k + 1) := by
    rw [nth_eq h3] at h4
    conv => lhs; rw [← List.take_append_drop k l,List.drop_eq_getElem_cons h3,h4]
   have hn1 : x ∉ l.take k := fun hm => by
    obtain ⟨j,hj,e⟩ := List.getElem_of_mem hm
    rw [List.length_take] at hj
    rw [← nth_eq (by rw [List.length_take]; omega),nth_take (by omega)] at e
    have := h1 j (by omega)
    rw [e,sLt_irrefl] at this; cases this
   have hn2 : x ∉ l.drop (k + 1) := fun hm => by
    obtain ⟨j,hj,e⟩ := List.getElem_of_mem hm
    rw [List.length_drop] at hj
    rw [List.getElem_drop,← nth_eq (by omega)] at e
    have := okL_asc hs (k + 1 + j) k (by omega) (by omega)
    rw [e,h4,sLt_irrefl] at this; cases this
   conv => lhs; rw [hl2]
   rw [List.filter_append,List.filter_cons_of_neg (by simp),filter_ne hn1,filter_ne hn2]
  ·rw [if_neg h,if_neg h,e1,e2,List.append_assoc,List.singleton_append]
end Go.TL
namespace Go.TL
def evP (e : EventT) : Bool := decide (1 ≤ e.Id ∧ e.Id ≤ 1000) && verP e.Version && decide (1 ≤ e.Kind ∧ e.Kind ≤ 6) && nameP e.Name
theorem zg6 (e : EventT) (h : ok_S e.Name) : zdJ e = some (evP e) := by
 unfold zdJ evP verP
 simp only [zcK,zfv _ h,Option.bind_some]
 cases decide (1 ≤ e.Id ∧ e.Id ≤ 1000) <;> cases decide (0 ≤ e.Version ∧ e.Version ≤ 1000000) <;> cases decide (1 ≤ e.Kind ∧ e.Kind ≤ 6) <;> simp
theorem zg7 (e : EventT) : zdN e = some (evP e) := by
 unfold zdN zcy zad evP verP
 simp only [zdl,zbL,Option.bind_some]
 cases decide (1 ≤ e.Id ∧ e.Id ≤ 1000) <;> cases decide (0 ≤ e.Version ∧ e.Version ≤ 1000000) <;> cases decide (1 ≤ e.Kind ∧ e.Kind ≤ 6) <;> simp
def mayP (s : StateT) (e : EventT) : Bool := evP e && decide (e.Id = s.Next) && decide (e.Kind = 1 ↔ s.Status = 0) && !decide (s.Status = 2)
def outP (s : StateT) (e : EventT) : Option StateT :=
 if e.Kind = 1 then some ⟨1,s.Next + 1,s.Cancel,s.Done,s.Signals,s.Timers⟩
 else if e.Kind = 2 then (if (hasS s.Signals e.Name || decide (s.Signals.length = 30)) = true then none else some ⟨s.Status,s.Next + 1,s.Cancel,s.Done,s.Signals ++ [e.Name],s.Timers⟩)
 else if e.Kind = 3 then some ⟨s.Status,s.Next + 1,s.Cancel,s.Done + 1,s.Signals,s.Timers⟩
 else if e.Kind = 4 then some ⟨s.Status,s.Next + 1,s.Cancel,s.Done,s.Signals,turnP s.Timers e.Name⟩
 else if e.Kind = 5 then (if s.Cancel = true then none else some ⟨s.Status,s.Next + 1,true,s.Done,s.Signals,s.Timers⟩)
 else some ⟨2,s.Next + 1,s.Cancel,s.Done,s.Signals,[]⟩
def applyP (s : StateT) (e : EventT) : Option StateT := if mayP s e = true then (outP s e).bind (fun t => if goodS t = true then some t else none) else none
theorem goodS_num {s : StateT} (h : goodS s = true) : (1 ≤ s.Next ∧ s.Next ≤ 1001) ∧ (0 ≤ s.Done ∧ s.Done ≤ 1000) ∧ (0 ≤ s.Status ∧ s.Status ≤ 2) ∧ okL false s.Signals = true ∧ okL true s.Timers = true := by
 unfold goodS at h
 simp only [Bool.and_eq_true,decide_eq_true_eq] at h
 exact ⟨h.1.1.1.1.1,h.1.1.1.1.2,h.1.1.1.2,h.1.1.2,h.1.2⟩
theorem turnP_ok {l : List ByteArray} {x : ByteArray} (h : okL true l = true) (hx : ok_S x) : ok_LS (turnP l x) := by
 obtain ⟨k,_,hk,_,he⟩ := search_eq l x h
 have hl := okL_len h
 have ho := okL_ok h
 rw [he]
 split
 ·refine ⟨by rw [List.length_append,List.length_take,List.length_drop]; omega,fun y hy => ?_⟩
  rw [List.mem_append] at hy
  rcases hy with hy | hy
  ·exact ho.2 y (List.mem_of_mem_take hy)
  ·exact ho.2 y (List.mem_of_mem_drop hy)
 ·refine ⟨by rw [List.length_append,List.length_append,List.length_take,List.length_drop,List.length_singleton]; omega,fun y hy => ?_⟩
  rw [List.mem_append,List.mem_append,List.mem_singleton] at hy
  rcases hy with (hy | hy) | hy
  ·exact ho.2 y (List.mem_of_mem_take hy)
  ·rw [hy]; exact hx
  ·exact ho.2 y (List.mem_of_mem_drop hy)
theorem zfV (s : StateT) (e : EventT) (hs : goodS s = true) (he : ok_S e.Name) : ∃ r,zbw s e = some r ∧ applyP s e = if r.2 = true then some r.1 else none := by
 obtain ⟨hN,hD,hS,hl1,hl2⟩ := goodS_num hs
 have n1 := okL_len hl1
 have n2 := okL_len hl2
 have o1 := okL_ok hl1
 have o2 := okL_ok hl2
 have hJ : (if (!evP e) = true then some (⟨true⟩ : zaP) else if (e.Id != s.Next) = true then some ⟨true⟩ else if (!((e.Kind == 1) == (s.Status == 0))) = true then some ⟨true⟩ else some ⟨(s.Status == 2)⟩) = some ⟨!mayP s e⟩ := by
  unfold mayP
  cases evP e
  ·simp
  rw [show (e.Kind == 1) = decide (e.Kind = 1) from rfl,show (s.Status == 0) = decide (s.Status = 0) from rfl]
  by_cases h1 : e.Id = s.Next
  ·by_cases h2 : e.Kind = 1 <;> by_cases h3 : s.Status = 0 <;> by_cases h4 : s.Status = 2 <;> simp [h1,h2,h3,h4]
  ·simp [h1]
 unfold zbw
 rw [zg6 e he]
 simp only [Option.bind_some]
 rw [hJ]
 simp only [Option.bind_some]
 unfold applyP
 by_cases hm : mayP s e = true
 rotate_left
 ·exact ⟨(s,false),by simp [hm],by simp [hm]⟩
 rw [if_pos hm,hm]
 simp only [Bool.not_true,Bool.false_eq_true,if_false]
 have hown : ze1 s = some s := by
  unfold ze1
  rw [guard_pos (by omega),guard_pos (by omega)]
  simp only [List.nil_append]
 rw [hown]
 simp only [Option.bind_some,beq_iff_eq]
 have hw : wI (s.Next + 1) = s.Next + 1 := wI_id (by omega)
 have hw2 : wI (s.Done + 1) = s.Done + 1 := wI_id (by omega)
 have hk : 1 ≤ e.Kind ∧ e.Kind ≤ 6 := by
  unfold mayP evP at hm
  simp only [Bool.and_eq_true,decide_eq_true_eq] at hm
  exact hm.1.1.1.1.2
 have fin : ∀ (t : StateT),ok_LS t.Signals → ok_LS t.Timers → ∃ r,(Option.bind (zcz t) fun c73 => some (t,c73)) = some r ∧ (Option.bind (some t) fun t => if goodS t = true then some t else none) = if r.2 = true then some r.1 else none :=
  fun t h1 h2 => ⟨_,by rw [zg5 t h1 h2]; rfl,by rfl⟩
 unfold outP
 rw [hw]
 by_cases h1 : e.Kind = 1
 ·rw [if_pos h1,if_pos h1]; simp only [Option.bind_some]; exact fin ⟨1,s.Next + 1,s.Cancel,s.Done,s.Signals,s.Timers⟩ o1 o2
 by_cases h2 : e.Kind = 2
 ·rw [if_neg h1,if_pos h2,if_neg h1,if_pos h2]
  obtain ⟨k,hk,hp⟩ := zc8 s.Signals e.Name (by omega)
  rw [hk]
  simp only [Option.bind_some,hp]
  have hJ2 : (if hasS s.Signals e.Name = true then some (⟨true⟩ : zcS) else some ⟨(((s.Signals.length : Nat) : Int) == 30)⟩) = some ⟨hasS s.Signals e.Name || decide (s.Signals.length = 30)⟩ := by
   cases hasS s.Signals e.Name
   ·simp only [Bool.false_eq_true,if_false,Bool.false_or]
    congr 2
    rw [Bool.eq_iff_iff,beq_iff_eq,decide_eq_true_eq]; omega
   ·simp
  rw [hJ2]
  simp only [Option.bind_some]
  cases hb : (hasS s.Signals e.Name || decide (s.Signals.length = 30))
  ·simp only [Bool.false_eq_true,if_false]
   rw [guard_pos (by omega)]
   simp only [Option.bind_some]
   exact fin ⟨s.Status,s.Next + 1,s.Cancel,s.Done,s.Signals ++ [e.Name],s.Timers⟩ ⟨by simp only [List.length_append,List.length_singleton]; omega,fun y hy => by
    rw [List.mem_append,List.mem_singleton] at hy
    rcases hy with hy | hy
    ·exact o1.2 y hy
    ·rw [hy]; exact he⟩ o2
  ·exact ⟨(s,false),by simp,by simp⟩
 by_cases h3 : e.Kind = 3
 ·rw [if_neg h1,if_neg h2,if_pos h3,if_neg h1,if_neg h2,if_pos h3]
  simp only [Option.bind_some,hw2]
  exact fin ⟨s.Status,s.Next + 1,s.Cancel,s.Done + 1,s.Signals,s.Timers⟩ o1 o2
 by_cases h4 : e.Kind = 4
 ·rw [if_neg h1,if_neg h2,if_neg h3,if_pos h4,if_neg h1,if_neg h2,if_neg h3,if_pos h4,zhq _ _ n2]
  simp only [Option.bind_some]
  exact fin ⟨s.Status,s.Next + 1,s.Cancel,s.Done,s.Signals,turnP s.Timers e.Name⟩ o1 (turnP_ok hl2 he)
 by_cases h5 : e.Kind = 5
 ·rw [if_neg h1,if_neg h2,if_neg h3,if_neg h4,if_pos h5,if_neg h1,if_neg h2,if_neg h3,if_neg h4,if_pos h5]
  cases hb : s.Cancel
  ·simp only [Bool.false_eq_true,if_false,Option.bind_some]
   exact fin ⟨s.Status,s.Next + 1,true,s.Done,s.Signals,s.Timers⟩ o1 o2
  ·exact ⟨(s,false),by simp,by simp⟩
 ·rw [if_neg h1,if_neg h2,if_neg h3,if_neg h4,if_neg h5,if_neg h1,if_neg h2,if_neg h3,if_neg h4,if_neg h5]
  simp only [Option.bind_some]
  exact fin ⟨2,s.Next + 1,s.Cancel,s.Done,s.Signals,[]⟩ o1 ⟨by simp,fun y hy => by simp at hy⟩
theorem zg8 (s : StateT) (x : ByteArray) (h : okL true s.Timers = true) : ∃ r,zaU s x = some r ∧
  (r.1 = true → r.2 = ⟨s.Status,s.Next,s.Cancel,s.Done,s.Signals,turnP s.Timers x⟩) ∧ (r.1 = false → hasS s.Timers x = false ∧ s.Timers.length = 30) := by
 obtain ⟨k,hk,hkl,hlt,he⟩ := search_eq s.Timers x h
 have hl := okL_len h
 unfold zaU
 rw [hk]
 simp only [Option.bind_some]
 cases hb : hasS s.Timers x
 ·simp only [Bool.false_eq_true,if_false]
  by_cases h30 : s.Timers.length = 30
  ·rw [if_pos (by simp; omega)]
   exact ⟨_,rfl,fun h => (by cases h),fun _ => ⟨by simp,h30⟩⟩
  ·rw [if_neg (by simp; omega)]
   unfold zbT
   rw [guard_pos ⟨rfl,by omega,by omega,by omega⟩]
   simp only [Option.bind_some,Int.toNat_natCast]
   refine ⟨_,rfl,fun _ => ?_,fun h => by cases h⟩
   rw [he,hb]
   simp
 ·simp only [if_true]
  have hk1 := hlt hb
  have e1 : wI ((k : Int) + 1) = ((k + 1 : Nat) : Int) := by rw [wI_id (by omega)]; omega
  unfold zbS
  rw [e1,guard_pos ⟨by omega,by omega,by omega,by omega⟩]
  simp only [Option.bind_some,Int.toNat_natCast]
  refine ⟨_,rfl,fun _ => ?_,fun h => by cases h⟩
  rw [he,hb]
  simp
theorem zgL (s : StateT) (e : EventT) (hs : goodS s = true) (hev : evP e = true) (hid : e.Id = s.Next) : ∃ r,za4 s e.Kind e.Name = some r ∧
  (r.1 = true → mayP s e = true ∧ outP s e = some r.2) ∧ (r.1 = false → applyP s e = none) := by
 obtain ⟨hN,hD,hS,hl1,hl2⟩ := goodS_num hs
 have n1 := okL_len hl1
 have n2 := okL_len hl2
 have hk : (1 ≤ e.Id ∧ e.Id ≤ 1000) ∧ 1 ≤ e.Kind ∧ e.Kind ≤ 6 := by
  unfold evP at hev
  simp only [Bool.and_eq_true,decide_eq_true_eq] at hev
  exact ⟨hev.1.1.1,hev.1.2⟩
 have hJ : (if decide (s.Next > 1000) = true then some (⟨true⟩ : z8) else if (!((e.Kind == 1) == (s.Status == 0))) = true then some ⟨true⟩ else if (e.Kind != 1) = true then some ⟨(s.Status != 1)⟩ else some ⟨false⟩) = some ⟨!mayP s e⟩ := by
  unfold mayP
  rw [hev,if_neg (by simp; omega),show (e.Kind == 1) = decide (e.Kind = 1) from rfl,show (s.Status == 0) = decide (s.Status = 0) from rfl]
  by_cases h2 : e.Kind = 1
  ·by_cases h3 : s.Status = 0
   ·simp [hid,h2,h3]
   ·simp [hid,h2,h3]
  ·by_cases h3 : s.Status = 0
   ·simp [hid,h2,h3]
   ·by_cases h4 : s.Status = 2
    ·simp [hid,h2,h3,h4]
    ·have : s.Status = 1 := by omega
     simp [hid,h2,h3,this]
 unfold za4
 rw [hJ]
 simp only [Option.bind_some]
 by_cases hm : mayP s e = true
 rotate_left
 ·refine ⟨(false,s),by simp [hm],fun h => (by cases h),fun _ => by unfold applyP; rw [if_neg hm]⟩
 have hno : outP s e = none → applyP s e = none := fun h => by unfold applyP; rw [if_pos hm,h]; rfl
 rw [hm]
 simp only [Bool.not_true,Bool.false_eq_true,if_false,beq_iff_eq]
 have hw : wI (s.Next + 1) = s.Next + 1 := wI_id (by omega)
 have hw2 : wI (s.Done + 1) = s.Done + 1 := wI_id (by omega)
 rw [hw,hw2]
 by_cases h1 : e.Kind = 1
 ·rw [if_pos h1]; exact ⟨_,rfl,fun _ => ⟨trivial,by unfold outP; rw [if_pos h1]⟩,fun h => by cases h⟩
 by_cases h2 : e.Kind = 2
 ·rw [if_neg h1,if_pos h2,containsS_eq _ _ (by omega)]
  have hJ2 : (if hasS s.Signals e.Name = true then some (⟨true⟩ : zbi) else some ⟨(((s.Signals.length : Nat) : Int) == 30)⟩) = some ⟨hasS s.Signals e.Name || decide (s.Signals.length = 30)⟩ := by
   cases hasS s.Signals e.Name
   ·simp only [Bool.false_eq_true,if_false,Bool.false_or]
    congr 2
    rw [Bool.eq_iff_iff,beq_iff_eq,decide_eq_true_eq]; omega
   ·simp
  simp only [Option.bind_some,hJ2]
  cases hb : (hasS s.Signals e.Name || decide (s.Signals.length = 30))
  ·simp only [Bool.false_eq_true,if_false]
   rw [guard_pos (by omega)]
   exact ⟨_,rfl,fun _ => ⟨trivial,by unfold outP; rw [if_neg h1,if_pos h2,hb]; rfl⟩,fun h => by cases h⟩
  ·simp only [if_true]
   exact ⟨_,rfl,fun h => (by cases h),fun _ => hno (by unfold outP; rw [if_neg h1,if_pos h2,hb]; rfl)⟩
 by_cases h3 : e.Kind = 3
 ·rw [if_neg h1,if_neg h2,if_pos h3]; exact ⟨_,rfl,fun _ => ⟨trivial,by unfold outP; rw [if_neg h1,if_neg h2,if_pos h3]⟩,fun h => by cases h⟩
 by_cases h4 : e.Kind = 4
 ·rw [if_neg h1,if_neg h2,if_neg h3,if_pos h4]
  obtain ⟨r,hr,ht,hf⟩ := zg8 s e.Name hl2
  rw [hr]
  simp only [Option.bind_some]
  cases hb : r.1
  ·simp only [Bool.not_false,if_true]
   refine ⟨_,rfl,fun h => (by cases h),fun _ => ?_⟩
   unfold applyP
   rw [if_pos hm]
   unfold outP
   rw [if_neg h1,if_neg h2,if_neg h3,if_pos h4]
   simp only [Option.bind_some]
   obtain ⟨f1,f2⟩ := hf hb
   have hbad : ¬ goodS ⟨s.Status,s.Next + 1,s.Cancel,s.Done,s.Signals,turnP s.Timers e.Name⟩ = true := fun h => by
    have h1 := okL_len (goodS_num h).2.2.2.2
    obtain ⟨k,_,hk,_,he⟩ := search_eq s.Timers e.Name hl2
    simp only at h1
    rw [he,f1] at h1
    simp only [Bool.false_eq_true,if_false,List.length_append,List.length_take,List.length_drop,List.length_singleton] at h1
    omega
   rw [if_neg hbad]
  ·simp only [Bool.not_true,Bool.false_eq_true,if_false]
   rw [ht hb]
   simp only [hw]
   exact ⟨_,rfl,fun _ => ⟨trivial,by unfold outP; rw [if_neg h1,if_neg h2,if_neg h3,if_pos h4]⟩,fun h => by cases h⟩
 by_cases h5 : e.Kind = 5
 ·rw [if_neg h1,if_neg h2,if_neg h3,if_neg h4,if_pos h5]
  cases hb : s.Cancel
  ·simp only [Bool.false_eq_true,if_false]
   exact ⟨_,rfl,fun _ => ⟨trivial,by unfold outP; rw [if_neg h1,if_neg h2,if_neg h3,if_neg h4,if_pos h5,hb]; rfl⟩,fun h => by cases h⟩
  ·simp only [if_true]
   exact ⟨_,rfl,fun h => (by cases h),fun _ => hno (by unfold outP; rw [if_neg h1,if_neg h2,if_neg h3,if_neg h4,if_pos h5,hb]; rfl)⟩
 ·have h6 : e.Kind = 6 := by omega
  rw [if_neg h1,if_neg h2,if_neg h3,if_neg h4,if_neg h5,if_pos h6]
  exact ⟨_,rfl,fun _ => ⟨trivial,by unfold outP; rw [if_neg h1,if_neg h2,if_neg h3,if_neg h4,if_neg h5]⟩,fun h => by cases h⟩
def zeroS : StateT := ⟨0,0,false,0,[],[]⟩
theorem turnP_len {l : List ByteArray} {x : ByteArray} (h : okL true l = true) : (turnP l x).length ≤ 31 := by
 obtain ⟨k,_,hk,_,he⟩ := search_eq l x h
 have hl := okL_len h
 rw [he]
 split
 ·rw [List.length_append,List.length_take,List.length_drop]; omega
 ·rw [List.length_append,List.length_append,List.length_take,List.length_drop,List.length_singleton]; omega
theorem outP_len {s t : StateT} {e : EventT} (hs : goodS s = true) (h : outP s e = some t) : t.Signals.length ≤ 31 ∧ t.Timers.length ≤ 31 := by
 obtain ⟨hN,hD,hS,hl1,hl2⟩ := goodS_num hs
 have n1 := okL_len hl1
 have n2 := okL_len hl2
 have n3 := turnP_len (x := e.Name) hl2
 unfold outP at h
 split at h
 ·cases h; simp only; omega
 split at h
 ·split at h
  ·cases h
  ·cases h; simp only [List.length_append,List.length_singleton]; omega
 split at h
 ·cases h; simp only; omega
 split at h
 ·cases h; simp only; omega
 split at h
 ·split at h
  ·cases h
  ·cases h; simp only; omega
 ·cases h; simp only [List.length_nil]; omega
theorem zgR (s : StateT) (e : EventT) (h1 : s.Signals.length ≤ 9223372036854775807) (h2 : s.Timers.length ≤ 9223372036854775807) :
  zde s e = some (if goodS s = true then (match applyP s e with | some t => (t,true) | none => (zeroS,false)) else (zeroS,false)) := by
 unfold zde
 rw [zcg s h1 h2,zg7]
 simp only [Option.bind_some]
 by_cases hs : goodS s = true
 rotate_left
 ·simp [hs]; rfl
 obtain ⟨hN,hD,hS,hl1,hl2⟩ := goodS_num hs
 have n1 := okL_len hl1
 have n2 := okL_len hl2
 rw [hs]
 simp only [Bool.not_true,Bool.false_eq_true,if_false,if_true]
 by_cases hev : evP e = true
 rotate_left
 ·have : applyP s e = none := by unfold applyP mayP; simp [hev]
  simp [hev,this]; rfl
 by_cases hid : e.Id = s.Next
 rotate_left
 ·have : applyP s e = none := by unfold applyP mayP; simp [hid]
  simp [hev,hid,this]; rfl
 have hJ : (if (!evP e) = true then some (⟨true⟩ : za5) else some ⟨(e.Id != s.Next)⟩) = some ⟨false⟩ := by simp [hev,hid]
 rw [hJ]
 have hcl : zaM s = some s := by
  unfold zaM zaO
  rw [guard_pos (by omega),guard_pos (by omega)]
  rfl
 simp only [Option.bind_some,Bool.false_eq_true,if_false,hcl]
 obtain ⟨r,hr,ht,hf⟩ := zgL s e hs hev hid
 rw [hr]
 simp only [Option.bind_some]
 cases hb : r.1
 ·simp [hf hb]; rfl
 ·obtain ⟨g1,g2⟩ := ht hb
  have hlen := outP_len hs g2
  simp only [Bool.not_true,Bool.false_eq_true,if_false]
  rw [zcg r.2 (by omega) (by omega)]
  have ha : applyP s e = if goodS r.2 = true then some r.2 else none := by unfold applyP; rw [if_pos g1,g2]; rfl
  rw [ha]
  simp only [Option.bind_some]
  cases hg : goodS r.2
  ·simp; rfl
  ·simp
theorem applyP_good {s t : StateT} {e : EventT} (h : applyP s e = some t) : goodS t = true := by
 unfold applyP at h
 split at h
 ·cases ho : outP s e with
  | none => rw [ho] at h; cases h
  | some u =>
   rw [ho] at h
   simp only [Option.bind_some] at h
   split at h
   ·cases h; assumption
   ·cases h
 ·cases h
def foldQ : List EventT → StateT → Nat → StateT × Nat
 | [],s,n => (s,n)
 | e :: r,s,n => match applyP s e with
  | some t => foldQ r t (n + 1)
  | none => (s,n)
def newS : StateT := ⟨0,1,false,0,[],[]⟩
theorem newS_good : goodS newS = true := by
 have h : ∀ r,okL r [] = true := fun r => by unfold okL; simp [allN]
 unfold goodS newS
 simp only [h]
 decide
def foldP (l : List EventT) : StateT × Nat := foldQ l newS 0
theorem drop_cons {α : Type} [Inhabited α] {l r : List α} {y : α} {i : Nat} (hd : l.drop i = y :: r) : i < l.length ∧ nth l i = y ∧ l.drop (i + 1) = r := by
 have hlt : i < l.length := by
  have := congrArg List.length hd
  rw [List.length_drop,List.length_cons] at this
  omega
 have := List.drop_eq_getElem_cons hlt
 rw [hd] at this
 exact ⟨hlt,by rw [nth_eq hlt]; exact (List.cons.inj this).1.symm,(List.cons.inj this).2.symm⟩
theorem drop_nil {α : Type} {l : List α} {i : Nat} (hd : l.drop i = []) (hi : i ≤ l.length) : i = l.length := by
 have := congrArg List.length hd
 rw [List.length_drop,List.length_nil] at this
 omega
theorem zhP (l : List EventT) (hl : l.length ≤ 9223372036854775807) : ∀ (r : List EventT) (i : Nat) (s : StateT),l.drop i = r → i ≤ l.length → goodS s = true →
  ∃ y,loopF (zaa l) ⟨(i : Int),s.Status,s.Next,s.Cancel,s.Done,s.Signals,s.Timers⟩ = some y ∧ (match y with
   | .inl p180 => some ((⟨p180.b0_0,p180.b0_1,p180.b0_2,p180.b0_3,p180.c1,p180.c2⟩ : StateT),p180.t3)
   | .inr p181 => some ((⟨p181.b1_0,p181.b1_1,p181.b1_2,p181.b1_3,p181.c2,p181.c3⟩ : StateT),((l.length : Nat) : Int))) = some ((foldQ r s i).1,(((foldQ r s i).2 : Nat) : Int)) := by
 intro r
 induction r with
 | nil =>
  intro i s hd hi hs
  have hi' := drop_nil hd hi
  subst hi'
  refine ⟨_,loop_out (by unfold zaa; rw [if_neg (by simp)]),rfl⟩
 | cons e r ih =>
  intro i s hd hi hs
  obtain ⟨hlt,hy,hr⟩ := drop_cons hd
  have n := goodS_num hs
  have n1 := okL_len n.2.2.2.1
  have n2 := okL_len n.2.2.2.2
  have hstep : zaa l ⟨(i : Int),s.Status,s.Next,s.Cancel,s.Done,s.Signals,s.Timers⟩ = some (match applyP s e with
    | some t => .inl ⟨((i + 1 : Nat) : Int),t.Status,t.Next,t.Cancel,t.Done,t.Signals,t.Timers⟩
    | none => .inr (.inl ⟨(i : Int),s.Status,s.Next,s.Cancel,s.Done,s.Signals,s.Timers⟩)) := by
   unfold zaa
   have e1 : wI ((i : Int) + 1) = ((i + 1 : Nat) : Int) := by rw [wI_id (by omega)]; omega
   simp only [Int.toNat_natCast,hy,e1]
   rw [if_pos (by simp; omega),guard_pos (by omega),zgR _ _ (by simp only; omega) (by simp only; omega)]
   have hs' : goodS ⟨s.Status,s.Next,s.Cancel,s.Done,s.Signals,s.Timers⟩ = true := hs
   simp only [Option.bind_some]
   rw [if_pos hs']
   cases applyP s e <;> rfl
  unfold foldQ
  cases ha : applyP s e with
  | some t =>
   rw [ha] at hstep
   rw [loop_on hstep]
   exact ih (i + 1) t hr (by omega) (applyP_good ha)
  | none =>
   rw [ha] at hstep
   exact ⟨_,loop_out hstep,rfl⟩
theorem zfy (l : List EventT) (hl : l.length ≤ 9223372036854775807) : zb4 l = some ((foldP l).1,(((foldP l).2 : Nat) : Int)) := by
 unfold zb4 ze8
 simp only [Option.bind_some]
 obtain ⟨y,hy,he⟩ := zhP l hl l 0 newS rfl (by omega) newS_good
 have hy' : loopF (zaa l) ⟨0,0,1,false,0,[],[]⟩ = some y := hy
 rw [hy']
 exact he
theorem zhQ (l : List EventT) (hl : ok_LEvent l) : ∀ (r : List EventT) (i : Nat) (s : StateT),l.drop i = r → i ≤ l.length → goodS s = true →
  ∃ y,loopF (zaK l) ⟨(i : Int),s.Status,s.Next,s.Cancel,s.Done,s.Signals,s.Timers⟩ = some y ∧ (match y with
   | .inl p77 => some ((⟨p77.b0_0,p77.b0_1,p77.b0_2,p77.b0_3,p77.b0_4,p77.b0_5⟩ : StateT),p77.t3)
   | .inr p78 => some ((⟨p78.b1_0,p78.b1_1,p78.b1_2,p78.b1_3,p78.b1_4,p78.b1_5⟩ : StateT),((l.length : Nat) : Int))) = some ((foldQ r s i).1,(((foldQ r s i).2 : Nat) : Int)) := by
 have hl1 := hl.1
 intro r
 induction r with
 | nil =>
  intro i s hd hi hs
  have hi' := drop_nil hd hi
  subst hi'
  refine ⟨_,loop_out (by unfold zaK; rw [if_neg (by simp)]),rfl⟩
 | cons e r ih =>
  intro i s hd hi hs
  obtain ⟨hlt,hy,hr⟩ := drop_cons hd
  have hne : ok_S e.Name := by rw [← hy]; exact (hl.2 _ (nth_mem hlt)).2.2.2
  obtain ⟨q,hq,ha⟩ := zfV s e hs hne
  have hstep : zaK l ⟨(i : Int),s.Status,s.Next,s.Cancel,s.Done,s.Signals,s.Timers⟩ = some (match applyP s e with
    | some t => .inl ⟨((i + 1 : Nat) : Int),t.Status,t.Next,t.Cancel,t.Done,t.Signals,t.Timers⟩
    | none => .inr (.inl ⟨(i : Int),s.Status,s.Next,s.Cancel,s.Done,s.Signals,s.Timers⟩)) := by
   unfold zaK
   have e1 : wI ((i : Int) + 1) = ((i + 1 : Nat) : Int) := by rw [wI_id (by omega)]; omega
   simp only [Int.toNat_natCast,hy,e1]
   rw [if_pos (by simp; omega),guard_pos (by omega)]
   have hq' : zbw ⟨s.Status,s.Next,s.Cancel,s.Done,s.Signals,s.Timers⟩ e = some q := hq
   rw [hq',ha]
   simp only [Option.bind_some]
   cases q.2 <;> rfl
  unfold foldQ
  cases hb : applyP s e with
  | some t =>
   rw [hb] at hstep
   rw [loop_on hstep]
   exact ih (i + 1) t hr (by omega) (applyP_good hb)
  | none =>
   rw [hb] at hstep
   exact ⟨_,loop_out hstep,rfl⟩
theorem zeq (l : List EventT) (hl : ok_LEvent l) : zbX l = some ((foldP l).1,(((foldP l).2 : Nat) : Int)) := by
 unfold zbX ze6
 simp only [Option.bind_some]
 obtain ⟨y,hy,he⟩ := zhQ l hl l 0 newS rfl (by omega) newS_good
 have hy' : loopF (zaK l) ⟨0,0,1,false,0,[],[]⟩ = some y := hy
 rw [hy']
 exact he
end Go.TL
namespace Go.TL
theorem foldQ_good : ∀ (r : List EventT) (s : StateT) (n : Nat),goodS s = true → goodS (foldQ r s n).1 = true
 | [],s,n,h => h
 | e :: r,s,n,h => by
  unfold foldQ
  cases ha : applyP s e with
  | some t => exact foldQ_good r t (n + 1) (applyP_good ha)
  | none => exact h
theorem foldP_good (l : List EventT) : goodS (foldP l).1 = true := foldQ_good l newS 0 newS_good
theorem foldP_len (l : List EventT) : (foldP l).1.Signals.length ≤ 30 ∧ (foldP l).1.Timers.length ≤ 30 := by
 have := goodS_num (foldP_good l)
 exact ⟨okL_len this.2.2.2.1,okL_len this.2.2.2.2⟩
def ascP (l : List EventT) : Bool := allN (fun i => decide (i = 0) || !decide ((nth l i).Version < (nth l (i - 1)).Version)) l.length
def histP (l : List EventT) : Bool := ascP l && decide ((foldP l).2 = l.length) && decide (l.length ≤ 60)
theorem zg9 (l : List EventT) (hl : l.length ≤ 9223372036854775807) : zdQ l = some (histP l) := by
 unfold zdQ histP
 by_cases h : l.length ≤ 60
 rotate_left
 ·rw [if_pos (by simp; omega)]; simp [h]
 rw [if_neg (by simp; omega)]
 have key := all_loop (step := zbt l) (fun i => (⟨i⟩ : zdE)) l.length (fun i => decide (i = 0) || !decide ((nth l i).Version < (nth l (i - 1)).Version)) (.inr () : Unit ⊕ Unit) (.inl ()) (fun i hi hv => ?_) (fun _ => ?_)
 ·rw [key]
  unfold ascP
  cases allN (fun i => decide (i = 0) || !decide ((nth l i).Version < (nth l (i - 1)).Version)) l.length
  ·simp
  ·simp only [if_true,Option.bind_some]
   rw [zfy l hl]
   simp only [Option.bind_some,Bool.true_and,decide_eq_true h,Bool.and_true]
   congr 1
   rw [Bool.eq_iff_iff,beq_iff_eq,decide_eq_true_eq]; omega
 ·unfold zbt
  have e1 : wI ((i : Int) + 1) = ((i + 1 : Nat) : Int) := by rw [wI_id (by omega)]; omega
  dsimp only
  rw [if_pos (by simp; omega),e1,guard_pos (by omega)]
  by_cases h0 : i = 0
  ·subst h0
   simp
  ·have e2 : wI ((i : Int) - 1) = ((i - 1 : Nat) : Int) := by rw [wI_id (by omega)]; omega
   rw [if_pos (by simp; omega),e2,guard_pos (by omega)]
   simp only [Option.bind_some,Int.toNat_natCast,decide_eq_false h0,Bool.false_or]
   cases decide ((nth l i).Version < (nth l (i - 1)).Version) <;> rfl
 ·unfold zbt
  rw [if_neg (by simp)]
theorem zha (l : List EventT) (hl : ok_LEvent l) : zdL l = some (histP l) := by
 have hl1 := hl.1
 unfold zdL histP
 have key := all_loop (step := zbs l) (fun i => (⟨i⟩ : zdD)) l.length (fun i => decide (i = 0) || !decide ((nth l i).Version < (nth l (i - 1)).Version)) (.inr () : Unit ⊕ Unit) (.inl ()) (fun i hi hv => ?_) (fun _ => ?_)
 ·rw [key]
  unfold ascP
  cases allN (fun i => decide (i = 0) || !decide ((nth l i).Version < (nth l (i - 1)).Version)) l.length
  ·simp
  ·simp only [if_true,Option.bind_some]
   rw [zeq l hl]
   simp only [Option.bind_some,Bool.true_and]
   have e1 : ((((foldP l).2 : Nat) : Int) == ((l.length : Nat) : Int)) = decide ((foldP l).2 = l.length) := by
    rw [Bool.eq_iff_iff,beq_iff_eq,decide_eq_true_eq]; omega
   have e2 : decide (((l.length : Nat) : Int) ≤ 60) = decide (l.length ≤ 60) := by congr 1; apply propext; omega
   rw [e1,e2]
   cases decide ((foldP l).2 = l.length) <;> rfl
 ·unfold zbs
  have e1 : wI ((i : Int) + 1) = ((i + 1 : Nat) : Int) := by rw [wI_id (by omega)]; omega
  dsimp only
  rw [if_pos (by simp; omega),e1]
  by_cases h0 : i = 0
  ·subst h0
   simp
  ·have e2 : wI ((i : Int) - 1) = ((i - 1 : Nat) : Int) := by rw [wI_id (by omega)]; omega
   rw [if_pos (by simp; omega),e2,guard_pos (by omega),guard_pos (by omega)]
   simp only [Option.bind_some,Int.toNat_natCast,decide_eq_false h0,Bool.false_or,gt_iff_lt]
   cases decide ((nth l i).Version < (nth l (i - 1)).Version) <;> rfl
 ·unfold zbs
  rw [if_neg (by simp)]
end Go.TL
namespace Go.TL
def evC (a b : EventT) : Int := if a.Version ≠ b.Version then (if a.Version < b.Version then -1 else 1) else if a.Kind ≠ b.Kind then (if a.Kind < b.Kind then -1 else 1) else if sLt a.Name b.Name = true then -1 else if sLt b.Name a.Name = true then 1 else 0
theorem zhr (a b : EventT) : zea a b = some (evC a b) := by
 unfold zea evC
 rw [sGt]
 by_cases h1 : a.Version = b.Version
 ·by_cases h2 : a.Kind = b.Kind
  ·simp only [h1,h2,bne_self_eq_false,Bool.false_eq_true,if_false,ne_eq,not_true_eq_false]
   split
   ·rfl
   ·split <;> rfl
  ·have hb : (a.Kind != b.Kind) = true := by simp [h2]
   simp only [h1,hb,bne_self_eq_false,Bool.false_eq_true,if_false,if_true,ne_eq,not_true_eq_false,h2,not_false_eq_true,decide_eq_true_eq]
   split <;> rfl
 ·have hb : (a.Version != b.Version) = true := by simp [h1]
  simp only [hb,if_true,ne_eq,h1,not_false_eq_true,decide_eq_true_eq]
  split <;> rfl
theorem cmpOr3 (a b c : Int) : zeP [a,b,c] = some (if a ≠ 0 then a else if b ≠ 0 then b else c) := by
 unfold zeP
 have key := find_loop (step := zc4 [a,b,c]) (fun i => (⟨i⟩ : ze4)) 3 (fun i => decide (nth [a,b,c] i ≠ 0)) (fun i => (.inl ⟨nth [a,b,c] i⟩ : zf9 ⊕ Unit)) (.inr ()) (fun i hi hv => ?_) ?_
 ·rw [key]
  have n0 : nth [a,b,c] 0 = a := rfl
  have n1 : nth [a,b,c] 1 = b := rfl
  have n2 : nth [a,b,c] 2 = c := rfl
  by_cases ha : a = 0
  ·by_cases hb : b = 0
   ·by_cases hc : c = 0
    ·rw [findN_none (fun j hj => by
      have : j = 0 ∨ j = 1 ∨ j = 2 := by omega
      rcases this with rfl | rfl | rfl
      ·rw [n0]; simp [ha]
      ·rw [n1]; simp [hb]
      ·rw [n2]; simp [hc])]
     simp [ha,hb,hc]
    ·rw [findN_some (i := 2) (by omega) (by rw [n2]; simp [hc]) (fun j hj => by
      have : j = 0 ∨ j = 1 := by omega
      rcases this with rfl | rfl
      ·rw [n0]; simp [ha]
      ·rw [n1]; simp [hb])]
     simp only [Option.bind_some]
     rw [n2,if_neg (by simp [ha]),if_neg (by simp [hb])]
   ·rw [findN_some (i := 1) (by omega) (by rw [n1]; simp [hb]) (fun j hj => by
     have : j = 0 := by omega
     subst this; rw [n0]; simp [ha])]
    simp only [Option.bind_some]
    rw [n1,if_neg (by simp [ha]),if_pos hb]
  ·rw [findN_some (i := 0) (by omega) (by rw [n0]; simp [ha]) (fun j hj => by omega)]
   simp [ha,n0]
 ·unfold zc4
  have hl : ([a,b,c] : List Int).length = 3 := rfl
  simp (disch := omega) only [hl,decide_eq_true_eq,if_pos,guard_pos,Int.toNat_natCast,wI_id]
  by_cases h : nth [a,b,c] i = 0
  ·rw [if_neg (by simp [h]),if_neg (by simp [h])]; rfl
  ·rw [if_pos (by simp [h]),if_pos (by simp [h])]
 ·unfold zc4
  rw [if_neg (by simp)]
theorem zgS (a b : EventT) : zdf a b = some (evC a b) := by
 unfold zdf
 simp only [zhB,zhY,Option.bind_some,cmpOr3]
 congr 1
 unfold evC cmpI cmpS
 by_cases h1 : a.Version < b.Version
 ·have : ¬ a.Version = b.Version := by omega
  simp [h1,this]
 ·by_cases h2 : b.Version < a.Version
  ·have : ¬ a.Version = b.Version := by omega
   simp [h1,h2,this]
  ·have h3 : a.Version = b.Version := by omega
   simp only [h3,Int.lt_irrefl,if_false,ne_eq,not_true_eq_false]
   by_cases k1 : a.Kind < b.Kind
   ·have : ¬ a.Kind = b.Kind := by omega
    simp [k1,this]
   ·by_cases k2 : b.Kind < a.Kind
    ·have : ¬ a.Kind = b.Kind := by omega
     simp [k1,k2,this]
    ·have k3 : a.Kind = b.Kind := by omega
     simp only [k3,Int.lt_irrefl,if_false,ne_eq,not_true_eq_false]
     rcases sLt_tri a.Name b.Name with h | h | h
     ·simp [h]
     ·simp [h,sLt_irrefl]
     ·have hn : a.Name ≠ b.Name := fun e => by rw [e,sLt_irrefl] at h; cases h
      simp [h,sLt_asym h,hn]
theorem evC_zero (a b : EventT) : evC a b = 0 ↔ a.Version = b.Version ∧ a.Kind = b.Kind ∧ a.Name = b.Name := by
 unfold evC
 by_cases h1 : a.Version = b.Version
 ·by_cases h2 : a.Kind = b.Kind
  ·rcases sLt_tri a.Name b.Name with h | h | h
   ·have hn : a.Name ≠ b.Name := fun e => by rw [e,sLt_irrefl] at h; cases h
    simp [h1,h2,h,hn]
   ·simp [h1,h2,h,sLt_irrefl]
   ·have hn : a.Name ≠ b.Name := fun e => by rw [e,sLt_irrefl] at h; cases h
    simp [h1,h2,h,sLt_asym h,hn]
  ·simp only [h1,h2,ne_eq,not_true_eq_false,if_false,not_false_eq_true,if_true,false_and,and_false,iff_false]
   split <;> decide
 ·simp only [h1,ne_eq,not_false_eq_true,if_true,false_and,iff_false]
  split <;> decide
def firstD (a b : List EventT) : Option Nat := findN (fun i => decide (evC (nth a i) (nth b i) ≠ 0)) (min a.length b.length)
def cmpL (a b : List EventT) : Int × Nat := match firstD a b with
 | some i => (evC (nth a i) (nth b i),i)
 | none => if a.length < b.length then (-1,a.length) else if b.length < a.length then (1,b.length) else (0,a.length)
theorem zdm (a b : List EventT) (ha : a.length ≤ 9223372036854775807) (hb : b.length ≤ 9223372036854775807) : zaL a b = some ((cmpL a b).1,(((cmpL a b).2 : Nat) : Int)) := by
 unfold zaL
 have key := find_loop (step := za2 a b) (fun i => (⟨i⟩ : zdd)) (min a.length b.length) (fun i => decide (evC (nth a i) (nth b i) ≠ 0)) (fun i => (.inl ⟨evC (nth a i) (nth b i),i⟩ : zfm ⊕ Unit)) (.inr ()) (fun i hi hv => ?_) ?_
 ·rw [key]
  unfold cmpL firstD
  cases findN (fun i => decide (evC (nth a i) (nth b i) ≠ 0)) (min a.length b.length) with
  | some i => rfl
  | none =>
   simp only [Option.bind_some,decide_eq_true_eq,Int.ofNat_lt,gt_iff_lt]
   split
   ·rfl
   ·split <;> rfl
 ·unfold za2
  dsimp only
  rw [if_pos (by simp; omega),if_pos (by simp; omega),guard_pos (by omega),guard_pos (by omega),zhr]
  simp only [Option.bind_some,Int.toNat_natCast]
  have e1 : wI ((i : Int) + 1) = ((i + 1 : Nat) : Int) := by rw [wI_id (by omega)]; omega
  rw [e1]
  by_cases h : evC (nth a i) (nth b i) = 0
  ·rw [if_neg (by simp [h]),if_neg (by simp [h])]
  ·rw [if_pos (by simp [h]),if_pos (by simp [h])]
 ·unfold za2
  dsimp only
  by_cases h : a.length ≤ b.length
  ·rw [if_neg (by simp; omega)]
  ·rw [if_pos (by simp; omega),if_neg (by simp; omega)]
theorem zeh (a b : List EventT) (ha : a.length ≤ 9223372036854775807) (hb : b.length ≤ 9223372036854775807) : zaZ a b = some (cmpL a b).1 := by
 unfold zaZ zD
 have key := find_loop (step := zd a b) (fun i => (⟨i⟩ : zu)) (min a.length b.length) (fun i => decide (evC (nth a i) (nth b i) ≠ 0))
  (fun i => (.inl ⟨evC (nth a i) (nth b i)⟩ : zan ⊕ Unit)) (if b.length < a.length then .inl ⟨1⟩ else .inr ()) (fun i hi hv => ?_) ?_
 ·rw [key]
  unfold cmpL firstD
  cases findN (fun i => decide (evC (nth a i) (nth b i) ≠ 0)) (min a.length b.length) with
  | some i => rfl
  | none =>
   simp only [Option.bind_some]
   by_cases h1 : b.length < a.length
   ·have h2 : ¬ a.length < b.length := by omega
    simp only [h1,h2,if_true,if_false,Option.bind_some]
   ·simp only [h1,if_false,decide_eq_true_eq,Int.ofNat_lt]
    split <;> rfl
 ·unfold zd
  dsimp only
  rw [if_pos (by simp; omega),guard_pos (by omega),if_neg (by simp; omega),guard_pos (by omega),zgS]
  simp only [Option.bind_some,Int.toNat_natCast]
  have e1 : wI ((i : Int) + 1) = ((i + 1 : Nat) : Int) := by rw [wI_id (by omega)]; omega
  rw [e1]
  by_cases h : evC (nth a i) (nth b i) = 0
  ·rw [if_neg (by simp [h]),if_neg (by simp [h])]
  ·rw [if_pos (by simp [h]),if_pos (by simp [h])]
 ·unfold zd
  dsimp only
  by_cases h : b.length < a.length
  ·rw [if_pos (by simp; omega),guard_pos (by omega),if_pos (by simp; omega),if_pos h]
  ·rw [if_neg (by simp; omega),if_neg h]
def tellP (l : List EventT) : Bool := decide (0 < l.length) && histP l
theorem zgT (l : List EventT) (hl : ok_LEvent l) : zdc l = some (tellP l) := by
 unfold zdc tellP
 by_cases h : 0 < l.length
 ·rw [if_pos (decide_eq_true (show ((l.length : Nat) : Int) > 0 by omega)),zha l hl]; simp [h]
 ·rw [if_neg (by rw [decide_eq_true_eq]; omega)]; simp [h]
theorem zfM (l : List EventT) (hl : l.length ≤ 9223372036854775807) : zcA l = some (tellP l) := by
 unfold zcA tellP
 by_cases h : 0 < l.length
 ·rw [if_pos (decide_eq_true (show ((l.length : Nat) : Int) > 0 by omega)),zg9 l hl]; simp [h]
 ·rw [if_neg (by rw [decide_eq_true_eq]; omega)]; simp [h]
theorem outP_next {s t : StateT} {e : EventT} (h : outP s e = some t) : t.Next = s.Next + 1 := by
 unfold outP at h
 split at h
 ·cases h; rfl
 split at h
 ·split at h
  ·cases h
  ·cases h; rfl
 split at h
 ·cases h; rfl
 split at h
 ·cases h; rfl
 split at h
 ·split at h
  ·cases h
  ·cases h; rfl
 ·cases h; rfl
theorem applyP_next {s t : StateT} {e : EventT} (h : applyP s e = some t) : e.Id = s.Next ∧ t.Next = s.Next + 1 := by
 unfold applyP at h
 split at h
 ·rename_i hm
  unfold mayP at hm
  simp only [Bool.and_eq_true,decide_eq_true_eq] at hm
  cases ho : outP s e with
  | none => rw [ho] at h; cases h
  | some u =>
   rw [ho] at h
   simp only [Option.bind_some] at h
   split at h
   ·cases h; exact ⟨hm.1.1.2,outP_next ho⟩
   ·cases h
 ·cases h
theorem foldQ_ids : ∀ (r : List EventT) (s : StateT) (n : Nat),(foldQ r s n).2 = n + r.length → ∀ j,j < r.length → (nth r j).Id = s.Next + (j : Int)
 | [],s,n,_,j,hj => by simp at hj
 | e :: r,s,n,h,j,hj => by
  unfold foldQ at h
  cases ha : applyP s e with
  | none => rw [ha] at h; simp only [List.length_cons] at h; omega
  | some t =>
   rw [ha] at h
   obtain ⟨h1,h2⟩ := applyP_next ha
   cases j with
   | zero => show e.Id = _; rw [h1]; simp
   | succ j =>
    have := foldQ_ids r t (n + 1) (by simp only [List.length_cons] at h; omega) j (by simpa using hj)
    show (nth r j).Id = _
    rw [this,h2]; omega
theorem hist_ids {l : List EventT} (h : histP l = true) {i : Nat} (hi : i < l.length) : (nth l i).Id = 1 + (i : Int) := by
 unfold histP at h
 simp only [Bool.and_eq_true,decide_eq_true_eq] at h
 exact foldQ_ids l newS 0 (by have := h.1.2; unfold foldP at this; omega) i hi
theorem tell_hist {l : List EventT} (h : tellP l = true) : histP l = true := by
 unfold tellP at h
 simp only [Bool.and_eq_true] at h
 exact h.2
theorem hist_len {l : List EventT} (h : histP l = true) : l.length ≤ 60 := by
 unfold histP at h
 simp only [Bool.and_eq_true,decide_eq_true_eq] at h
 exact h.2
theorem hist_same {a b : List EventT} (ha : histP a = true) (hb : histP b = true) {i : Nat} (h1 : i < a.length) (h2 : i < b.length) : nth a i = nth b i ↔ evC (nth a i) (nth b i) = 0 := by
 rw [evC_zero]
 constructor
 ·intro e; rw [e]; exact ⟨rfl,rfl,rfl⟩
 ·rintro ⟨e1,e2,e3⟩
  have i1 := hist_ids ha h1
  have i2 := hist_ids hb h2
  have e0 : (nth a i).Id = (nth b i).Id := by rw [i1,i2]
  revert e0 e1 e2 e3
  cases nth a i; cases nth b i
  simp only
  rintro rfl rfl rfl rfl
  rfl
theorem evEq (x y : EventT) : ((x.Id == y.Id) && ((x.Version == y.Version) && ((x.Kind == y.Kind) && (x.Name.toList == y.Name.toList)))) = decide (x = y) := by
 rw [sEq,Bool.eq_iff_iff]
 simp only [Bool.and_eq_true,beq_iff_eq,decide_eq_true_eq]
 cases x; cases y
 simp
theorem cmpL_snd (a b : List EventT) : (cmpL a b).2 = match firstD a b with | some i => i | none => min a.length b.length := by
 unfold cmpL
 cases firstD a b with
 | some i => rfl
 | none =>
  simp only
  split
  ·simp only; omega
  ·split <;> (simp only; omega)
end Go.TL
namespace Go.TL
def begB (c b : List EventT) : Bool := decide ((cmpL b c).2 = c.length)
theorem zch (b c : List EventT) (hb : b.length ≤ 9223372036854775807) (hc : c.length ≤ 9223372036854775807) : zaA b c = some (begB c b) := by
 unfold zaA begB
 rw [zdm _ _ hb hc]
 simp only [Option.bind_some]
 congr 1
 rw [Bool.eq_iff_iff,beq_iff_eq,decide_eq_true_eq]; omega
theorem findN_lt {p : Nat → Bool} {n i : Nat} (h : findN p n = some i) : i < n ∧ p i = true ∧ ∀ j,j < i → p j = false := by
 unfold findN at h
 rw [List.find?_range_eq_some] at h
 exact ⟨by simpa using h.2.1,h.1,fun j hj => by have := h.2.2 j hj; simpa using this⟩
theorem findN_no {p : Nat → Bool} {n : Nat} (h : findN p n = none) : ∀ j,j < n → p j = false := by
 unfold findN at h
 rw [List.find?_eq_none] at h
 intro j hj
 have := h j (List.mem_range.2 hj)
 simpa using this
theorem begB_iff {c b : List EventT} (hc : histP c = true) (hb : histP b = true) : begB c b = true ↔ c.length ≤ b.length ∧ ∀ i,i < c.length → nth c i = nth b i := by
 unfold begB
 rw [decide_eq_true_eq,cmpL_snd]
 unfold firstD
 cases hf : findN (fun i => decide (evC (nth b i) (nth c i) ≠ 0)) (min b.length c.length) with
 | some i =>
  obtain ⟨h1,h2,h3⟩ := findN_lt hf
  simp only [ne_eq,decide_not,Bool.not_eq_true',decide_eq_false_iff_not] at h2
  simp only
  constructor
  ·intro h; omega
  ·rintro ⟨h4,h5⟩
   exact absurd ((hist_same hb hc (i := i) (by omega) (by omega)).1 (h5 i (by omega)).symm) h2
 | none =>
  have h1 := findN_no hf
  simp only
  constructor
  ·intro h
   refine ⟨by omega,fun i hi => ?_⟩
   have := h1 i (by omega)
   simp only [ne_eq,decide_not,Bool.not_eq_false',decide_eq_true_eq] at this
   exact ((hist_same hb hc (i := i) (by omega) (by omega)).2 this).symm
  ·rintro ⟨h4,_⟩; omega
theorem zeQ (c b : List EventT) (hc : histP c = true) (hb : histP b = true) : zcw c b = some (begB c b) := by
 have h1 := hist_len hc
 have h2 := hist_len hb
 unfold zcw
 by_cases h : c.length ≤ b.length
 rotate_left
 ·have : begB c b = false := by
   cases e : begB c b with
   | false => rfl
   | true => exact absurd ((begB_iff hc hb).1 e).1 h
  rw [if_neg (by rw [decide_eq_true_eq]; omega),this]
 rw [if_pos (by rw [decide_eq_true_eq]; omega),guard_pos (by omega)]
 unfold zbz
 have ht : (b.take c.length).length = c.length := by rw [List.length_take]; omega
 rw [if_neg (by rw [ht]; simp)]
 have key := all_loop (step := zU c (b.take c.length)) (fun i => (⟨i⟩ : zaY)) c.length (fun i => decide (nth c i = nth b i)) (.inr () : Unit ⊕ Unit) (.inl ()) (fun i hi hv => ?_) (fun _ => ?_)
 ·rw [key]
  have e : allN (fun i => decide (nth c i = nth b i)) c.length = begB c b := by
   rw [Bool.eq_iff_iff,allN_iff,begB_iff hc hb]
   simp only [decide_eq_true_eq]
   exact ⟨fun h' => ⟨h,h'⟩,fun h' => h'.2⟩
  rw [e]
  cases begB c b <;> simp
 ·unfold zU
  dsimp only
  rw [if_pos (by rw [decide_eq_true_eq]; omega),guard_pos (by omega),guard_pos (by rw [ht]; omega),Int.toNat_natCast,evEq,nth_take hi]
  have e1 : wI ((i : Int) + 1) = ((i + 1 : Nat) : Int) := by rw [wI_id (by omega)]; omega
  rw [e1]
  cases decide (nth c i = nth b i) <;> rfl
 ·unfold zU
  dsimp only
  rw [if_neg (by rw [decide_eq_true_eq]; omega)]
def goodT (t : TellingsT) : Bool := decide (t.Branches.length ≤ 12) && allN (fun i => tellP (nth t.Branches i).Events && allN (fun k => decide ((cmpL (nth t.Branches k).Events (nth t.Branches i).Events).1 < 0) && !begB (nth t.Branches k).Events (nth t.Branches i).Events) i) t.Branches.length
theorem zcr (t : TellingsT) (ht : ok_Tellings t) : zah t = some (goodT t) := by
 have h1 : t.Branches.length ≤ 9223372036854775807 := ht.1
 have hev : ∀ i,i < t.Branches.length → ok_LEvent (nth t.Branches i).Events := fun i hi => ht.2 _ (nth_mem hi)
 unfold zah goodT
 have key := all_loop (step := zaD t) (fun i => (⟨i⟩ : zaB)) t.Branches.length
  (fun i => tellP (nth t.Branches i).Events && allN (fun k => decide ((cmpL (nth t.Branches k).Events (nth t.Branches i).Events).1 < 0) && !begB (nth t.Branches k).Events (nth t.Branches i).Events) i) (.inr () : Unit ⊕ Unit) (.inl ()) (fun i hi hv => ?_) (fun _ => ?_)
 ·rw [key]
  have e2 : decide (((t.Branches.length : Nat) : Int) ≤ 12) = decide (t.Branches.length ≤ 12) := by congr 1; apply propext; omega
  split
  ·rename_i h; rw [h]; simp [e2]
  ·rename_i h; simp only [Bool.not_eq_true] at h; rw [h]; simp
 ·unfold zaD
  dsimp only
  rw [if_pos (by rw [decide_eq_true_eq]; omega),guard_pos (by omega),Int.toNat_natCast,zgT _ (hev i hi)]
  simp only [Option.bind_some]
  cases hn : tellP (nth t.Branches i).Events
  ·simp
  have ht' : (t.Branches.take i).length = i := by rw [List.length_take]; omega
  rw [if_neg (by simp),guard_pos (by omega)]
  have key2 := all_loop (step := zaC t (⟨(i : Int)⟩ : zaB)) (fun k => (⟨k⟩ : zcn)) i (fun k => decide ((cmpL (nth t.Branches k).Events (nth t.Branches i).Events).1 < 0) && !begB (nth t.Branches k).Events (nth t.Branches i).Events) (.inr () : Unit ⊕ Unit) (.inl ()) (fun k hk _ => ?_) (fun _ => ?_)
  ·rw [key2,Bool.true_and]
   have e1 : wI ((i : Int) + 1) = ((i + 1 : Nat) : Int) := by rw [wI_id (by omega)]; omega
   rw [e1]
   split <;> rfl
  ·unfold zaC
   simp only [Int.toNat_natCast,ht']
   rw [if_pos (by rw [decide_eq_true_eq]; omega),guard_pos (by omega),nth_take hk,zdm _ _ (hev k (by omega)).1 (hev i hi).1,zch _ _ (hev i hi).1 (hev k (by omega)).1]
   have e1 : wI ((k : Int) + 1) = ((k + 1 : Nat) : Int) := by rw [wI_id (by omega)]; omega
   simp only [Option.bind_some,e1]
   by_cases hc : (cmpL (nth t.Branches k).Events (nth t.Branches i).Events).1 < 0
   ·rw [if_neg (by rw [decide_eq_true_eq]; omega),decide_eq_true hc]
    cases begB (nth t.Branches k).Events (nth t.Branches i).Events
    ·have : ¬ ((k : Int) > (i : Int)) := by omega
     simp [this]
    ·simp
   ·rw [if_pos (by rw [decide_eq_true_eq]; omega),decide_eq_false hc]
    simp
  ·unfold zaC
   simp only [Int.toNat_natCast,ht']
   rw [if_neg (by simp)]
 ·unfold zaD
  rw [if_neg (by simp)]
theorem zbm (t : TellingsT) (ht : ok_Tellings t) : z7 t = some (goodT t) := by
 have h1 : t.Branches.length ≤ 9223372036854775807 := ht.1
 have hev : ∀ i,i < t.Branches.length → ok_LEvent (nth t.Branches i).Events := fun i hi => ht.2 _ (nth_mem hi)
 unfold z7 goodT
 by_cases h12 : t.Branches.length ≤ 12
 rotate_left
 ·rw [if_pos (by rw [decide_eq_true_eq]; omega)]; simp [h12]
 rw [if_neg (by rw [decide_eq_true_eq]; omega),decide_eq_true h12,Bool.true_and]
 have key := all_loop (step := zaG t) (fun i => (⟨i⟩ : zaE)) t.Branches.length
  (fun i => tellP (nth t.Branches i).Events && allN (fun k => decide ((cmpL (nth t.Branches k).Events (nth t.Branches i).Events).1 < 0) && !begB (nth t.Branches k).Events (nth t.Branches i).Events) i) (.inr () : Unit ⊕ Unit) (.inl ()) (fun i hi hv => ?_) (fun _ => ?_)
 ·rw [key]
  split
  ·rename_i h; rw [h]; rfl
  ·rename_i h; simp only [Bool.not_eq_true] at h; rw [h]; rfl
 ·unfold zaG
  dsimp only
  rw [if_pos (by rw [decide_eq_true_eq]; omega),guard_pos (by omega),Int.toNat_natCast,zfM _ (hev i hi).1]
  simp only [Option.bind_some]
  cases hn : tellP (nth t.Branches i).Events
  ·simp
  have ht' : (t.Branches.take i).length = i := by rw [List.length_take]; omega
  rw [if_neg (by simp),guard_pos (by omega)]
  have key2 := all_loop (step := zaF t (⟨(i : Int)⟩ : zaE)) (fun k => (⟨k⟩ : zco)) i (fun k => decide ((cmpL (nth t.Branches k).Events (nth t.Branches i).Events).1 < 0) && !begB (nth t.Branches k).Events (nth t.Branches i).Events) (.inr () : Unit ⊕ Unit) (.inl ()) (fun k hk _ => ?_) (fun _ => ?_)
  ·rw [key2,Bool.true_and]
   have e1 : wI ((i : Int) + 1) = ((i + 1 : Nat) : Int) := by rw [wI_id (by omega)]; omega
   rw [e1]
   split <;> rfl
  ·have hk' : tellP (nth t.Branches k).Events = true := by
    have := hv k hk
    simp only [Bool.and_eq_true] at this
    exact this.1
   unfold zaF
   simp only [Int.toNat_natCast,ht']
   rw [if_pos (by rw [decide_eq_true_eq]; omega),guard_pos (by omega),nth_take hk,zeh _ _ (hev k (by omega)).1 (hev i hi).1,zeQ _ _ (tell_hist hk') (tell_hist hn)]
   have e1 : wI ((k : Int) + 1) = ((k + 1 : Nat) : Int) := by rw [wI_id (by omega)]; omega
   simp only [Option.bind_some,e1]
   by_cases hc : (cmpL (nth t.Branches k).Events (nth t.Branches i).Events).1 < 0
   ·rw [if_neg (by rw [decide_eq_true_eq]; omega),decide_eq_true hc]
    cases begB (nth t.Branches k).Events (nth t.Branches i).Events <;> simp
   ·rw [if_pos (by rw [decide_eq_true_eq]; omega),decide_eq_false hc]
    simp
  ·unfold zaF
   simp only [Int.toNat_natCast,ht']
   rw [if_neg (by simp)]
 ·unfold zaG
  rw [if_neg (by simp)]
end Go.TL
namespace Go.TL
theorem goodT_tell {t : TellingsT} (h : goodT t = true) {i : Nat} (hi : i < t.Branches.length) : tellP (nth t.Branches i).Events = true := by
 unfold goodT at h
 simp only [Bool.and_eq_true,allN_iff] at h
 exact (h.2 i hi).1
theorem goodT_len {t : TellingsT} (h : goodT t = true) : t.Branches.length ≤ 12 := by
 unfold goodT at h
 simp only [Bool.and_eq_true,decide_eq_true_eq] at h
 exact h.1
def hasP (t : TellingsT) (l : List EventT) : Bool := t.Branches.any fun b => begB l b.Events
def hasH (t : TellingsT) (l : List EventT) : Bool × Bool := if (goodT t && tellP l) = true then (hasP t l,true) else (false,false)
theorem zh6 (t : TellingsT) (l : List EventT) (ht : goodT t = true) (hl : tellP l = true) : zg t.Branches l = some (hasP t l) := by
 have h1 := goodT_len ht
 unfold zg zv
 have key := find_loop (step := zb t.Branches l) (fun i => (⟨i⟩ : zp)) t.Branches.length (fun i => begB l (nth t.Branches i).Events)
  (fun i => (.inl ⟨i⟩ : zac ⊕ Unit)) (.inr ()) (fun i hi hv => ?_) ?_
 ·rw [key]
  have e := findN_any t.Branches fun b => begB l b.Events
  unfold hasP
  rw [← e]
  cases findN (fun i => begB l (nth t.Branches i).Events) t.Branches.length with
  | none => rfl
  | some i => simp
 ·unfold zb zcp
  dsimp only
  rw [if_pos (by rw [decide_eq_true_eq]; omega),guard_pos (by omega),Int.toNat_natCast,zeQ _ _ (tell_hist hl) (tell_hist (goodT_tell ht hi))]
  have e1 : wI ((i : Int) + 1) = ((i + 1 : Nat) : Int) := by rw [wI_id (by omega)]; omega
  simp only [Option.bind_some,e1]
  cases begB l (nth t.Branches i).Events <;> rfl
 ·unfold zb
  dsimp only
  rw [if_neg (by rw [decide_eq_true_eq]; omega)]
theorem zgU (t : TellingsT) (l : List EventT) (ht : ok_Tellings t) (hl : ok_LEvent l) : zdg t l = some (hasH t l) := by
 unfold zdg hasH
 simp only [zbm _ ht,zfM _ hl.1,Option.bind_some]
 cases h1 : goodT t
 ·simp
 cases h2 : tellP l
 ·simp
 rw [zh6 t l h1 h2]
 simp
end Go.TL

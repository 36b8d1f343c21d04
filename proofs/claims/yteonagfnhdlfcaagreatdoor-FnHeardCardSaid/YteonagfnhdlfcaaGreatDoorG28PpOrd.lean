import Derived.Test.YteonagfnhdlfcaaGreatDoorG27PpDeep
import Derived.Sort.Statements
set_option linter.unusedSimpArgs false
set_option linter.unusedVariables false
namespace Go.TL
theorem evC_key {x y : EventT} (h : evC x y = 0) (z : EventT) : evC x z = evC y z := by
 obtain ⟨h1,h2,h3⟩ := (evC_zero x y).1 h
 unfold evC
 rw [h1,h2,h3]
theorem evC_key' {x y : EventT} (h : evC x y = 0) (z : EventT) : evC z x = evC z y := by
 rw [evC_anti x z,evC_anti y z,evC_key h z]
theorem evC_lt {x y : EventT} : evC x y < 0 ↔ x.Version < y.Version ∨ (x.Version = y.Version ∧ (x.Kind < y.Kind ∨ (x.Kind = y.Kind ∧ sLt x.Name y.Name = true))) := by
 unfold evC
 by_cases h1 : x.Version = y.Version
 ·by_cases h2 : x.Kind = y.Kind
  ·cases h3 : sLt x.Name y.Name
   ·cases h4 : sLt y.Name x.Name <;> simp [h1,h2,h3,h4]
   ·simp [h1,h2,h3]
  ·simp only [h1,h2,ne_eq,not_true_eq_false,if_false,not_false_eq_true,if_true,false_and,or_false,true_and]
   by_cases h : x.Kind < y.Kind
   ·rw [if_pos h]; simp [h]
   ·rw [if_neg h]; simp [h]
 ·simp only [h1,ne_eq,not_false_eq_true,if_true,false_and,or_false]
  by_cases h : x.Version < y.Version
  ·rw [if_pos h]; simp [h]
  ·rw [if_neg h]; simp [h]
theorem evC_trans {x y z : EventT} (h1 : evC x y < 0) (h2 : evC y z < 0) : evC x z < 0 := by
 rw [evC_lt] at *
 rcases h1 with h1 | ⟨e1,h1 | ⟨f1,h1⟩⟩
 ·rcases h2 with h2 | ⟨e2,_⟩
  ·exact .inl (by omega)
  ·exact .inl (by omega)
 ·rcases h2 with h2 | ⟨e2,h2 | ⟨f2,h2⟩⟩
  ·exact .inl (by omega)
  ·exact .inr ⟨by omega,.inl (by omega)⟩
  ·exact .inr ⟨by omega,.inl (by omega)⟩
 ·rcases h2 with h2 | ⟨e2,h2 | ⟨f2,h2⟩⟩
  ·exact .inl (by omega)
  ·exact .inr ⟨by omega,.inl (by omega)⟩
  ·exact .inr ⟨by omega,.inr ⟨by omega,sLt_trans h1 h2⟩⟩
theorem evC_mix {x y z : EventT} (h1 : evC x y < 0) (h2 : evC y z ≤ 0) : evC x z < 0 := by
 rcases Int.lt_or_eq_of_le h2 with h | h
 ·exact evC_trans h1 h
 ·rw [← evC_key' h x]; exact h1
theorem evC_mix' {x y z : EventT} (h1 : evC x y ≤ 0) (h2 : evC y z < 0) : evC x z < 0 := by
 rcases Int.lt_or_eq_of_le h1 with h | h
 ·exact evC_trans h h2
 ·rw [evC_key h z]; exact h2
def lexB : List EventT → List EventT → Bool
 | _,[] => false
 | [],_ :: _ => true
 | x :: r,y :: q => decide (evC x y < 0) || (decide (evC x y = 0) && lexB r q)
theorem lexB_irr : ∀ a : List EventT,lexB a a = false
 | [] => rfl
 | x :: r => by
  have : evC x x = 0 := (evC_zero x x).2 ⟨rfl,rfl,rfl⟩
  simp [lexB,this,lexB_irr r]
theorem lexB_trans : ∀ a b c : List EventT,lexB a b = true → lexB b c = true → lexB a c = true
 | _,[],_,h,_ => by cases ‹List EventT› <;> simp [lexB] at h
 | _,_ :: _,[],_,h => by simp [lexB] at h
 | [],_ :: _,_ :: _,_,_ => rfl
 | x :: r,y :: q,z :: s,h1,h2 => by
  simp only [lexB,Bool.or_eq_true,Bool.and_eq_true,decide_eq_true_eq] at h1 h2 ⊢
  rcases h1 with h1 | ⟨e1,h1⟩
  ·rcases h2 with h2 | ⟨e2,h2⟩
   ·exact .inl (evC_trans h1 h2)
   ·exact .inl (evC_mix h1 (by omega))
  ·rcases h2 with h2 | ⟨e2,h2⟩
   ·exact .inl (evC_mix' (by omega) h2)
   ·exact .inr ⟨by rw [evC_key e1]; exact e2,lexB_trans r q s h1 h2⟩
theorem lexB_ntrans : ∀ a b c : List EventT,lexB a b = false → lexB b c = false → lexB a c = false
 | a,_,[],_,_ => by cases a <;> rfl
 | _,[],_ :: _,_,h => by simp [lexB] at h
 | [],_ :: _,_ :: _,h,_ => by simp [lexB] at h
 | x :: r,y :: q,z :: s,h1,h2 => by
  simp only [lexB,Bool.or_eq_false_iff,Bool.and_eq_false_iff,decide_eq_false_iff_not] at h1 h2 ⊢
  obtain ⟨a1,a2⟩ := h1
  obtain ⟨b1,b2⟩ := h2
  have a3 : evC y x ≤ 0 := by rw [evC_anti x y]; omega
  have b3 : evC z y ≤ 0 := by rw [evC_anti y z]; omega
  by_cases ha : evC x y = 0
  ·by_cases hb : evC y z = 0
   ·refine ⟨by rw [evC_key ha]; omega,.inr (lexB_ntrans r q s ?_ ?_)⟩
    ·rcases a2 with a2 | a2
     ·exact absurd ha a2
     ·exact a2
    ·rcases b2 with b2 | b2
     ·exact absurd hb b2
     ·exact b2
   ·exact ⟨by rw [evC_key ha]; omega,.inl (by rw [evC_key ha]; exact hb)⟩
  ·have a4 : evC y x < 0 := by rw [evC_anti x y]; omega
   have h := evC_mix' b3 a4
   rw [evC_anti x z] at h
   exact ⟨by omega,.inl (by omega)⟩
theorem cmpL_cons (x y : EventT) (r q : List EventT) : (cmpL (x :: r) (y :: q)).1 = if evC x y ≠ 0 then evC x y else (cmpL r q).1 := by
 have e0 : ∀ i,nth (x :: r) (i + 1) = nth r i := fun i => rfl
 have f0 : ∀ i,nth (y :: q) (i + 1) = nth q i := fun i => rfl
 by_cases h : evC x y = 0
 ·rw [if_neg (by simpa using h)]
  cases hf : firstD r q with
  | some k =>
   obtain ⟨h1,h2,h3⟩ := findN_lt hf
   have : firstD (x :: r) (y :: q) = some (k + 1) := findN_some (by simp only [List.length_cons]; omega) (by rw [e0,f0]; exact h2) fun j hj => by
    cases j with
    | zero => show decide (evC x y ≠ 0) = false; simp [h]
    | succ j => rw [e0,f0]; exact h3 j (by omega)
   unfold cmpL
   rw [this,hf]
   simp only [e0,f0]
  | none =>
   have h1 := findN_no hf
   have : firstD (x :: r) (y :: q) = none := findN_none fun j hj => by
    cases j with
    | zero => show decide (evC x y ≠ 0) = false; simp [h]
    | succ j => rw [e0,f0]; exact h1 j (by simp only [List.length_cons] at hj; omega)
   unfold cmpL
   rw [this,hf]
   simp only [List.length_cons,Nat.add_lt_add_iff_right]
   split
   ·rfl
   ·split <;> rfl
 ·rw [if_pos h]
  have : firstD (x :: r) (y :: q) = some 0 := findN_some (by simp only [List.length_cons]; omega) (by show decide (evC x y ≠ 0) = true; simp [h]) fun j hj => by omega
  unfold cmpL
  rw [this]
  rfl
theorem cmpL_nil_left (b : List EventT) : (cmpL [] b).1 = if b = [] then 0 else -1 := by
 unfold cmpL firstD
 cases b with
 | nil => rfl
 | cons y q =>
  have : findN (fun i => decide (evC (nth ([] : List EventT) i) (nth (y :: q) i) ≠ 0)) (min ([] : List EventT).length (y :: q).length) = none := findN_none fun j hj => by simp at hj
  rw [this]; simp
theorem cmpL_lex : ∀ a b : List EventT,decide ((cmpL a b).1 < 0) = lexB a b
 | [],b => by
  rw [cmpL_nil_left]
  cases b <;> simp [lexB]
 | x :: r,[] => by
  rw [cmpL_anti [] (x :: r),cmpL_nil_left]
  simp [lexB]
 | x :: r,y :: q => by
  have ih := cmpL_lex r q
  rw [cmpL_cons]
  unfold lexB
  rw [← ih]
  by_cases h : evC x y = 0
  ·simp [h]
  ·simp [h]
theorem branch_swo : Go.Sort.SWO fun a b : List EventT => decide ((cmpL a b).1 < 0) where
 irrefl a := by rw [cmpL_lex]; exact lexB_irr a
 trans a b c h1 h2 := by rw [cmpL_lex] at *; exact lexB_trans a b c h1 h2
 ntrans a b c h1 h2 := by rw [cmpL_lex] at *; exact lexB_ntrans a b c h1 h2
end Go.TL
namespace Go.TL
def brL (a b : BranchT) : Bool := lexB a.Events b.Events
theorem brL_irr (a : BranchT) : brL a a = false := lexB_irr _
theorem brL_trans (a b c : BranchT) (h1 : brL a b = true) (h2 : brL b c = true) : brL a c = true := lexB_trans _ _ _ h1 h2
theorem brL_iff {a b : BranchT} : brL a b = true ↔ (cmpL a.Events b.Events).1 < 0 := by
 unfold brL
 rw [← cmpL_lex,decide_eq_true_eq]
def putB (h : List EventT) : List BranchT → Bool → List BranchT
 | [],put => if put = true then [] else [⟨h⟩]
 | b :: r,put => if begB b.Events h = true then putB h r put else if ((cmpL b.Events h).1 > 0 ∧ put = false) then ⟨h⟩ :: b :: putB h r true else b :: putB h r put
def leaves (h : List EventT) (l : List BranchT) : List BranchT := l.filter fun b => !begB b.Events h
theorem leaves_cons (h : List EventT) (b : BranchT) (r : List BranchT) : leaves h (b :: r) = if begB b.Events h = true then leaves h r else b :: leaves h r := by
 unfold leaves
 cases hb : begB b.Events h <;> simp [hb]
theorem putB_true (h : List EventT) : ∀ l : List BranchT,putB h l true = leaves h l
 | [] => rfl
 | b :: r => by
  rw [leaves_cons]
  unfold putB
  rw [putB_true h r]
  simp
theorem putB_perm (h : List EventT) : ∀ l : List BranchT,(putB h l false).Perm (leaves h l ++ [⟨h⟩])
 | [] => .refl _
 | b :: r => by
  rw [leaves_cons]
  unfold putB
  split
  ·exact putB_perm h r
  ·split
   ·rw [putB_true]
    exact (List.perm_append_comm (l₁ := [(⟨h⟩ : BranchT)]) (l₂ := b :: leaves h r))
   ·exact (putB_perm h r).cons b
theorem leaves_asc {h : List EventT} {l : List BranchT} (hl : l.Pairwise fun a b => brL a b = true) : (leaves h l).Pairwise fun a b => brL a b = true := hl.filter _
theorem putB_asc (h : List EventT) : ∀ l : List BranchT,(l.Pairwise fun a b => brL a b = true) → (∀ b ∈ l,begB b.Events h = false → (cmpL b.Events h).1 ≠ 0) → (putB h l false).Pairwise fun a b => brL a b = true
 | [],_,_ => by simp [putB]
 | b :: r,hl,hn => by
  rw [List.pairwise_cons] at hl
  have ih := putB_asc h r hl.2 fun x hx => hn x (List.mem_cons_of_mem _ hx)
  unfold putB
  split
  ·exact ih
  ·rename_i hb
   have hb' : begB b.Events h = false := by simpa using hb
   split
   ·rename_i hc
    have hhb : brL ⟨h⟩ b = true := brL_iff.2 (by
     have := cmpL_anti b.Events h
     show (cmpL h b.Events).1 < 0
     omega)
    have hsub : ∀ x ∈ leaves h r,x ∈ r := fun x hx => (List.mem_filter.1 hx).1
    rw [putB_true,List.pairwise_cons,List.pairwise_cons]
    refine ⟨fun x hx => ?_,fun x hx => hl.1 x (hsub x hx),leaves_asc hl.2⟩
    rcases List.mem_cons.1 hx with e | e
    ·rw [e]; exact hhb
    ·exact brL_trans _ _ _ hhb (hl.1 x (hsub x e))
   ·rename_i hc
    have h1 := hn b (by simp) hb'
    have hbh : brL b ⟨h⟩ = true := brL_iff.2 (by
     show (cmpL b.Events h).1 < 0
     have : ¬ (cmpL b.Events h).1 > 0 := fun e => hc ⟨e,rfl⟩
     omega)
    rw [List.pairwise_cons]
    refine ⟨fun x hx => ?_,ih⟩
    have := (putB_perm h r).mem_iff.1 hx
    rcases List.mem_append.1 this with e | e
    ·exact hl.1 x (List.mem_filter.1 e).1
    ·rw [List.mem_singleton.1 e]; exact hbh
theorem putB_sort (h : List EventT) (l : List BranchT) (hl : l.Pairwise fun a b => brL a b = true) (hn : ∀ b ∈ l,begB b.Events h = false → (cmpL b.Events h).1 ≠ 0)
  {r : List BranchT} (hp : r.Perm (leaves h l ++ [⟨h⟩])) (hs : r.Pairwise fun a b => brL b a = false) : r = putB h l false := by
 have h1 := putB_asc h l hl hn
 have hpp := hp.trans (putB_perm h l).symm
 have hap : r.Pairwise fun a b => brL a b = true ∨ brL b a = true := (hpp.pairwise_iff fun h => h.symm).2 (h1.imp fun h => .inl h)
 refine asc_one brL_irr brL_trans hpp ?_ h1
 exact (hap.and hs).imp fun ⟨a,b⟩ => a.resolve_right (by rw [b]; exact Bool.false_ne_true)
end Go.TL

import Derived.Test.YteonagfnhdlfcaaGreatDoorG0TlCore
set_option linter.unusedSimpArgs false
set_option linter.unusedVariables false
namespace Go.TL
section
variable {α β σ ρ γ τ : Type}
def forL (body : α → σ → Option (σ ⊕ ρ)) : List α → σ → Option (σ ⊕ ρ)
 | [],s => some (.inl s)
 | x :: r,s => (body x s).bind fun y => match y with
  | .inl s' => forL body r s'
  | .inr e => some (.inr e)
def forI (body : Nat → σ → Option (σ ⊕ ρ)) : Nat → Nat → σ → Option (σ ⊕ ρ)
 | 0,_,s => some (.inl s)
 | n + 1,i,s => (body i s).bind fun y => match y with
  | .inl s' => forI body n (i + 1) s'
  | .inr e => some (.inr e)
theorem loop_forI {step : γ → Option (γ ⊕ τ)} (mk : Int → σ → γ) (body : Nat → σ → Option (σ ⊕ ρ)) (late : σ → τ) (early : ρ → τ) (inv : σ → Prop) (n : Nat)
  (hs : ∀ (i : Nat) (s : σ),i < n → inv s → step (mk i s) = (body i s).map fun y => match y with
   | .inl s' => .inl (mk (i + 1 : Nat) s')
   | .inr e => .inr (early e))
  (hi : ∀ (i : Nat) (s s' : σ),i < n → inv s → body i s = some (.inl s') → inv s')
  (he : ∀ s,inv s → step (mk n s) = some (.inr (late s))) :
  ∀ (m i : Nat) (s : σ),i + m = n → inv s → loopF step (mk i s) = (forI body m i s).map fun y => match y with
   | .inl s' => late s'
   | .inr e => early e
 | 0,i,s,h,hv => by
  have : i = n := by omega
  subst this
  exact loop_out (he s hv)
 | m + 1,i,s,h,hv => by
  have h1 := hs i s (by omega) hv
  unfold forI
  cases hb : body i s with
  | none =>
   rw [hb] at h1
   cases hl : loopF step (mk i s) with
   | none => rfl
   | some r =>
    obtain ⟨k,hk⟩ := loop_some hl
    cases hk with
    | out h' => rw [h1] at h'; cases h'
    | on h' _ => rw [h1] at h'; cases h'
  | some y =>
   rw [hb] at h1
   cases y with
   | inl s' =>
    rw [loop_on h1]
    exact loop_forI mk body late early inv n hs hi he m (i + 1) s' (by omega) (hi i s s' (by omega) hv hb)
   | inr e => exact loop_out h1
theorem forI_forL [Inhabited α] (body : α → σ → Option (σ ⊕ ρ)) (l : List α) : ∀ (m i : Nat) (s : σ),i + m = l.length → forI (fun i => body (nth l i)) m i s = forL body (l.drop i) s
 | 0,i,s,h => by rw [List.drop_of_length_le (by omega)]; rfl
 | m + 1,i,s,h => by
  have hi : i < l.length := by omega
  rw [List.drop_eq_getElem_cons hi]
  unfold forI forL
  have : nth l i = l[i] := by simp [nth,List.getD,hi]
  rw [this]
  cases body l[i] s with
  | none => rfl
  | some y =>
   cases y with
   | inl s' => exact forI_forL body l m (i + 1) s' (by omega)
   | inr e => rfl
theorem loop_forL [Inhabited α] {step : γ → Option (γ ⊕ τ)} (mk : Int → σ → γ) (l : List α) (body : α → σ → Option (σ ⊕ ρ)) (late : σ → τ) (early : ρ → τ) (inv : σ → Prop)
  (hs : ∀ (i : Nat) (s : σ),i < l.length → inv s → step (mk i s) = (body (nth l i) s).map fun y => match y with
   | .inl s' => .inl (mk (i + 1 : Nat) s')
   | .inr e => .inr (early e))
  (hi : ∀ (i : Nat) (s s' : σ),i < l.length → inv s → body (nth l i) s = some (.inl s') → inv s')
  (he : ∀ s,inv s → step (mk l.length s) = some (.inr (late s))) (s : σ) (h0 : inv s) : loopF step (mk 0 s) = (forL body l s).map fun y => match y with
   | .inl s' => late s'
   | .inr e => early e := by
 have := loop_forI mk (fun i => body (nth l i)) late early inv l.length hs hi he l.length 0 s (by omega) h0
 rw [forI_forL body l l.length 0 s (by omega)] at this
 simpa using this
theorem nth_eq [Inhabited α] {l : List α} {n : Nat} (h : n < l.length) : nth l n = l[n] := by simp [nth,List.getD,h]
theorem nth_mem [Inhabited α] {l : List α} {n : Nat} (h : n < l.length) : nth l n ∈ l := by rw [nth_eq h]; exact List.getElem_mem h
theorem list_ext [Inhabited α] {a b : List α} (h : a.length = b.length) (hn : ∀ j,j < a.length → nth a j = nth b j) : a = b := by
 refine List.ext_getElem h fun j h1 h2 => ?_
 have := hn j h1
 rwa [nth_eq h1,nth_eq h2] at this
def eqFrom [Inhabited α] [DecidableEq α] (a b : List α) : Nat → Nat → Bool
 | 0,_ => true
 | m + 1,i => decide (nth a i = nth b i) && eqFrom a b m (i + 1)
theorem eqFrom_iff [Inhabited α] [DecidableEq α] (a b : List α) : ∀ m i,eqFrom a b m i = true ↔ ∀ j,i ≤ j → j < i + m → nth a j = nth b j
 | 0,i => ⟨fun _ j h1 h2 => by omega,fun _ => rfl⟩
 | m + 1,i => by
  unfold eqFrom
  rw [Bool.and_eq_true,eqFrom_iff a b m (i + 1),decide_eq_true_eq]
  refine ⟨fun ⟨h1,h2⟩ j h3 h4 => ?_,fun h => ⟨h i (Nat.le_refl _) (by omega),fun j h1 h2 => h j (by omega) (by omega)⟩⟩
  by_cases e : j = i
  ·rw [e]; exact h1
  ·exact h2 j (by omega) (by omega)
theorem eq_loop [Inhabited α] [DecidableEq α] {step : γ → Option (γ ⊕ (Unit ⊕ Unit))} (mk : Int → γ) (a b : List α) (hl : a.length = b.length)
  (hs : ∀ (i : Nat),i < a.length → step (mk i) = some (if nth a i = nth b i then .inl (mk (i + 1 : Nat)) else .inr (.inl ())))
  (he : step (mk a.length) = some (.inr (.inr ()))) : loopF step (mk 0) = some (if a = b then .inr () else .inl ()) := by
 have key := loop_forI (step := step) (σ := Unit) (ρ := Unit) (fun i _ => mk i) (fun i _ => some (if nth a i = nth b i then .inl () else .inr ())) (fun _ => (.inr () : Unit ⊕ Unit)) (fun _ => (.inl () : Unit ⊕ Unit)) (fun _ => True) a.length
  (fun i s hi _ => by rw [hs i hi]; split <;> rfl) (fun _ _ _ _ _ _ => trivial) (fun s _ => he)
 have hf : ∀ (m i : Nat),forI (σ := Unit) (ρ := Unit) (fun i _ => some (if nth a i = nth b i then .inl () else .inr ())) m i () = some (if eqFrom a b m i = true then .inl () else .inr ()) := by
  intro m
  induction m with
  | zero => intro i; rfl
  | succ m ih =>
   intro i
   unfold forI eqFrom
   by_cases e : nth a i = nth b i
   ·simp only [e,if_true,Option.bind_some,decide_true,Bool.true_and]
    exact ih (i + 1)
   ·simp [e]
 have := key a.length 0 () (by omega) trivial
 rw [hf] at this
 have e : eqFrom a b a.length 0 = true ↔ a = b := by
  rw [eqFrom_iff]
  exact ⟨fun h => list_ext hl fun j hj => h j (Nat.zero_le _) (by omega),fun h j _ _ => by rw [h]⟩
 refine this.trans ?_
 by_cases h : a = b
 ·rw [if_pos h,if_pos (e.2 h)]; rfl
 ·rw [if_neg h,if_neg (fun h' => h (e.1 h'))]; rfl
theorem fill_loop [Inhabited α] {step : γ → Option (γ ⊕ τ)} (mk : Int → List β → γ) (a : List α) (f : α → β) (ex : List β → τ)
  (hs : ∀ (i : Nat) (l : List β),i < a.length → l.length = a.length → step (mk i l) = some (.inl (mk (i + 1 : Nat) (l.set i (f (nth a i))))))
  (he : ∀ l,l.length = a.length → step (mk a.length l) = some (.inr (ex l))) (l0 : List β) (h0 : l0.length = a.length) : loopF step (mk 0 l0) = some (ex (a.map f)) := by
 have key := loop_forI (ρ := Empty) mk (fun i l => some (.inl (l.set i (f (nth a i))))) ex (fun e => nomatch e) (fun l => l.length = a.length) a.length
  (fun i l hi hl => by rw [hs i l hi hl]; rfl) (fun i l l' _ hl h => by cases h; simpa using hl) he a.length 0 l0 (by omega) h0
 have hf : ∀ (m i : Nat) (l : List β),i + m = a.length → l.length = a.length → forI (ρ := Empty) (fun i l => some (.inl (l.set i (f (nth a i))))) m i l = some (.inl (l.take i ++ (a.drop i).map f)) := by
  intro m
  induction m with
  | zero =>
   intro i l h hl
   rw [List.drop_of_length_le (by omega),List.take_of_length_le (by omega)]
   simp [forI]
  | succ m ih =>
   intro i l h hl
   unfold forI
   simp only [Option.bind_some]
   rw [ih (i + 1) _ (by omega) (by simpa using hl)]
   have hi : i < a.length := by omega
   have e : (l.set i (f (nth a i))).take (i + 1) = l.take i ++ [f (nth a i)] := by
    rw [List.take_succ_eq_append_getElem (by rw [List.length_set]; omega),List.getElem_set_self]
    rw [List.take_set_of_le (Nat.le_refl _)]
   rw [e,List.drop_eq_getElem_cons hi,List.map_cons,nth_eq hi,List.append_assoc]
   rfl
 rw [hf _ 0 l0 (by omega) h0] at key
 simpa using key
end
end Go.TL
namespace Go.TL
section
variable {α β σ ρ γ τ : Type}
theorem bytes_toList (s : ByteArray) : s.toList = s.data.toList := by
 have key : ∀ (n i : Nat) (r : List UInt8),i + n = s.size → ByteArray.toList.loop s i r = r.reverse ++ s.data.toList.drop i := by
  intro n
  induction n with
  | zero =>
   intro i r h
   unfold ByteArray.toList.loop
   rw [if_neg (by omega),List.drop_of_length_le (by rw [Array.length_toList]; exact Nat.le_of_eq (h.symm.trans (Nat.add_zero i)))]
   simp
  | succ n ih =>
   intro i r h
   unfold ByteArray.toList.loop
   rw [if_pos (by omega),ih (i + 1) _ (by omega)]
   have hi : i < s.data.toList.length := by
    have hsz : s.size = s.data.size := rfl
    rw [Array.length_toList]; omega
   rw [List.drop_eq_getElem_cons hi]
   have : s.get! i = s.data.toList[i] := by
    simp only [ByteArray.get!]
    rw [getElem!_pos s.data i (by simpa using hi)]
    simp
   rw [this]
   simp
 have := key s.size 0 [] (by omega)
 simpa [ByteArray.toList] using this
theorem bytes_inj {a b : ByteArray} (h : a.toList = b.toList) : a = b := by
 rw [bytes_toList,bytes_toList] at h
 cases a; cases b
 simp only [ByteArray.mk.injEq]
 exact Array.ext' h
theorem sEq (a b : ByteArray) : (a.toList == b.toList) = decide (a = b) := by
 by_cases h : a = b
 ·subst h; simp
 ·rw [decide_eq_false h,beq_eq_false_iff_ne]
  exact fun e => h (bytes_inj e)
def sumN : List Nat → Nat
 | [] => 0
 | x :: r => x + sumN r
def szr (s : Nat) (n : Int) : Int := if (s : Int) ≤ n then n - s else -1
theorem sz_loop [Inhabited α] {step : γ → Option (γ ⊕ τ)} (mk : Int → Int → γ) (l : List α) (f : α → Nat) (B : Int) (late : Int → τ) (early : τ)
  (hs : ∀ (i : Nat) (s : Int),i < l.length → 0 ≤ s ∧ s ≤ B → step (mk i s) = some (if (f (nth l i) : Int) ≤ s then .inl (mk (i + 1 : Nat) (s - f (nth l i))) else .inr early))
  (he : ∀ s,0 ≤ s ∧ s ≤ B → step (mk l.length s) = some (.inr (late s))) (s : Int) (h0 : 0 ≤ s ∧ s ≤ B) :
  loopF step (mk 0 s) = some (if (sumN (l.map f) : Int) ≤ s then late (s - sumN (l.map f)) else early) := by
 have key := loop_forL (step := step) (ρ := Unit) mk l (fun x s => some (if (f x : Int) ≤ s then .inl (s - f x) else .inr ())) late (fun _ => early) (fun s => 0 ≤ s ∧ s ≤ B)
  (fun i s hi hv => by rw [hs i s hi hv]; simp only [Option.map_some]; split <;> rfl)
  (fun i s s' hi hv h => by
   simp only [Option.some.injEq] at h
   split at h
   ·cases h; omega
   ·cases h) he s h0
 have hf : ∀ (l : List α) (s : Int),0 ≤ s → forL (ρ := Unit) (fun x s => some (if (f x : Int) ≤ s then .inl (s - f x) else .inr ())) l s = some (if (sumN (l.map f) : Int) ≤ s then .inl (s - sumN (l.map f)) else .inr ()) := by
  intro l
  induction l with
  | nil => intro s h; simp [forL,sumN,h]
  | cons x r ih =>
   intro s h
   simp only [forL,List.map_cons,sumN,Option.bind_some]
   by_cases hx : (f x : Int) ≤ s
   ·rw [if_pos hx]
    simp only
    rw [ih _ (by omega)]
    by_cases h2 : (sumN (r.map f) : Int) ≤ s - f x
    ·rw [if_pos h2,if_pos (by omega)]
     congr 2
     omega
    ·rw [if_neg h2,if_neg (by omega)]
   ·rw [if_neg hx,if_neg (by omega)]
 rw [hf l s h0.1] at key
 refine key.trans ?_
 by_cases h : (sumN (l.map f) : Int) ≤ s
 ·rw [if_pos h,if_pos h]; rfl
 ·rw [if_neg h,if_neg h]; rfl
end
end Go.TL
namespace Go.TL
theorem sumN_mem {α : Type} (f : α → Nat) {l : List α} {x : α} (h : x ∈ l) : f x ≤ sumN (l.map f) := by
 induction l with
 | nil => cases h
 | cons y r ih =>
  simp only [List.map_cons,sumN]
  rcases List.mem_cons.1 h with rfl | h
  ·omega
  ·have := ih h; omega
end Go.TL
namespace Go.TL
section
variable {α β σ ρ γ τ : Type}
def allN (p : Nat → Bool) (n : Nat) : Bool := (List.range n).all p
theorem allN_iff {p : Nat → Bool} {n : Nat} : allN p n = true ↔ ∀ i,i < n → p i = true := by simp [allN,List.all_eq_true]
theorem allN_nth [Inhabited α] (l : List α) (p : α → Bool) : allN (fun i => p (nth l i)) l.length = l.all p := by
 rw [Bool.eq_iff_iff,allN_iff,List.all_eq_true]
 refine ⟨fun h x hx => ?_,fun h i hi => h _ (nth_mem hi)⟩
 obtain ⟨i,hi,rfl⟩ := List.getElem_of_mem hx
 have := h i hi
 rwa [nth_eq hi] at this
theorem all_loop {step : γ → Option (γ ⊕ τ)} (mk : Int → γ) (n : Nat) (p : Nat → Bool) (good bad : τ)
  (hs : ∀ (i : Nat),i < n → (∀ j,j < i → p j = true) → step (mk i) = some (if p i = true then .inl (mk (i + 1 : Nat)) else .inr bad))
  (he : (∀ j,j < n → p j = true) → step (mk n) = some (.inr good)) : loopF step (mk 0) = some (if allN p n = true then good else bad) := by
 have key : ∀ (m i : Nat),i + m = n → (∀ j,j < i → p j = true) → loopF step (mk i) = some (if allN p n = true then good else bad) := by
  intro m
  induction m with
  | zero =>
   intro i h hv
   have e : i = n := by omega
   subst e
   rw [loop_out (he hv),if_pos (allN_iff.2 hv)]
  | succ m ih =>
   intro i h hv
   have h1 := hs i (by omega) hv
   by_cases hp : p i = true
   ·rw [if_pos hp] at h1
    rw [loop_on h1]
    exact ih (i + 1) (by omega) fun j hj => by
     by_cases e : j = i
     ·rw [e]; exact hp
     ·exact hv j (by omega)
   ·rw [if_neg hp] at h1
    rw [loop_out h1,if_neg fun h => hp (allN_iff.1 h i (by omega))]
 exact key n 0 (by omega) fun j hj => by omega
def findN (p : Nat → Bool) (n : Nat) : Option Nat := (List.range n).find? p
theorem findN_some {p : Nat → Bool} {n i : Nat} (h1 : i < n) (h2 : p i = true) (h3 : ∀ j,j < i → p j = false) : findN p n = some i := by
 unfold findN
 rw [List.find?_range_eq_some]
 exact ⟨h2,by simpa using h1,fun j hj => by simp [h3 j hj]⟩
theorem findN_none {p : Nat → Bool} {n : Nat} (h : ∀ j,j < n → p j = false) : findN p n = none := by
 unfold findN
 rw [List.find?_eq_none]
 intro x hx
 simp [h x (List.mem_range.1 hx)]
theorem find_loop {step : γ → Option (γ ⊕ τ)} (mk : Int → γ) (n : Nat) (p : Nat → Bool) (early : Nat → τ) (late : τ)
  (hs : ∀ (i : Nat),i < n → (∀ j,j < i → p j = false) → step (mk i) = some (if p i = true then .inr (early i) else .inl (mk (i + 1 : Nat))))
  (he : step (mk n) = some (.inr late)) : loopF step (mk 0) = some (match findN p n with | some i => early i | none => late) := by
 have key : ∀ (m i : Nat),i + m = n → (∀ j,j < i → p j = false) → loopF step (mk i) = some (match findN p n with | some i => early i | none => late) := by
  intro m
  induction m with
  | zero =>
   intro i h hv
   have e : i = n := by omega
   subst e
   rw [loop_out he,findN_none hv]
  | succ m ih =>
   intro i h hv
   have h1 := hs i (by omega) hv
   by_cases hp : p i = true
   ·rw [if_pos hp] at h1
    rw [loop_out h1,findN_some (by omega) hp hv]
   ·rw [if_neg hp] at h1
    rw [loop_on h1]
    exact ih (i + 1) (by omega) fun j hj => by
     by_cases e : j = i
     ·rw [e]; simpa using hp
     ·exact hv j (by omega)
 exact key n 0 (by omega) fun j hj => by omega
theorem findN_any [Inhabited α] (l : List α) (p : α → Bool) : (findN (fun i => p (nth l i)) l.length).isSome = l.any p := by
 rw [Bool.eq_iff_iff,List.any_eq_true]
 unfold findN
 rw [List.find?_isSome]
 constructor
 ·rintro ⟨i,hi,hp⟩
  exact ⟨_,nth_mem (List.mem_range.1 hi),hp⟩
 ·rintro ⟨x,hx,hp⟩
  obtain ⟨i,hi,rfl⟩ := List.getElem_of_mem hx
  exact ⟨i,List.mem_range.2 hi,by rw [nth_eq hi]; exact hp⟩
end
end Go.TL
namespace Go.TL
section
variable {α β γ : Type}
def okO (Q : α → Prop) (o : Option α) : Prop := ∃ x,o = some x ∧ Q x
theorem okO.some {Q : α → Prop} {x : α} (h : Q x) : okO Q (Option.some x) := ⟨x,rfl,h⟩
theorem okO.mono {Q R : α → Prop} {o : Option α} (h : okO Q o) (hq : ∀ x,Q x → R x) : okO R o := let ⟨x,e,h⟩ := h; ⟨x,e,hq x h⟩
theorem okO.bind {P : α → Prop} {Q : β → Prop} {o : Option α} {f : α → Option β} (h : okO P o) (hf : ∀ x,P x → okO Q (f x)) : okO Q (o.bind f) := by
 obtain ⟨x,rfl,hx⟩ := h
 exact hf x hx
theorem okO.bind_some {Q : β → Prop} {x : α} {f : α → Option β} (h : okO Q (f x)) : okO Q ((Option.some x).bind f) := h
theorem okO.ite {Q : β → Prop} {c : Bool} {a b : Option β} (h1 : c = true → okO Q a) (h2 : c = false → okO Q b) : okO Q (if c = true then a else b) := by
 cases c
 ·exact h2 rfl
 ·exact h1 rfl
theorem okO.guard {Q : β → Prop} {p : Prop} [Decidable p] {k : Option β} (h : p) (hk : okO Q k) : okO Q (guardO p k) := by rw [guard_pos h]; exact hk
theorem okO.of_eq {Q : β → Prop} {o o' : Option β} (e : o = o') (h : okO Q o') : okO Q o := e ▸ h
theorem okO.loop {σ ρ : Type} {step : σ → Option (σ ⊕ ρ)} (inv : σ → Prop) (meas : σ → Nat) {Q : ρ → Prop} {s : σ} (hs : inv s)
  (h : ∀ s,inv s → okO (fun y => match y with | .inl s' => inv s' ∧ meas s' < meas s | .inr r => Q r) (step s)) : okO Q (loopF step s) := by
 refine loop_ex inv meas Q (fun s hs => ?_) hs
 obtain ⟨y,e,hy⟩ := h s hs
 cases y with
 | inl s' => exact .inl ⟨s',e,hy.1,hy.2⟩
 | inr r => exact .inr ⟨r,e,hy⟩
end
end Go.TL
namespace Go.TL
section
variable {β γ τ : Type}
def marks (f : Int → β) (w : Nat) (k : Int) (n : Nat) : List β := (List.range n).map fun i => f (k + (w * i : Nat))
theorem marks_length (f : Int → β) (w : Nat) (k : Int) (n : Nat) : (marks f w k n).length = n := by simp [marks]
theorem marks_get (f : Int → β) (w : Nat) (k : Int) (n i : Nat) (h : i < (marks f w k n).length) : (marks f w k n)[i] = f (k + (w * i : Nat)) := by simp [marks]
theorem nth_marks [Inhabited β] {f : Int → β} {w : Nat} {k : Int} {n i : Nat} (h : i < n) : nth (marks f w k n) i = f (k + (w * i : Nat)) := by
 rw [nth_eq (by rw [marks_length]; exact h),marks_get]
theorem nth_set_same [Inhabited β] {l : List β} {i : Nat} {v : β} (h : i < l.length) : nth (l.set i v) i = v := by
 rw [nth_eq (by rw [List.length_set]; exact h),List.getElem_set_self]
theorem mark_loop {step : γ → Option (γ ⊕ τ)} (mk : Int → Int → List β → γ) (w : Nat) (f : Int → β) (n : Nat) (B : Int) (ex : Int → List β → τ)
  (hs : ∀ (i : Nat) (k : Int) (l : List β),i < n → l.length = n → 0 ≤ k → k + w ≤ B → step (mk i k l) = some (.inl (mk (i + 1 : Nat) (k + w) (l.set i (f k)))))
  (he : ∀ k l,l.length = n → step (mk n k l) = some (.inr (ex k l))) (k0 : Int) (l0 : List β) (h0 : l0.length = n) (hk : 0 ≤ k0) (hb : k0 + (w * n : Nat) ≤ B) :
  loopF step (mk 0 k0 l0) = some (ex (k0 + (w * n : Nat)) (marks f w k0 n)) := by
 have key : ∀ (m i : Nat) (l : List β),i + m = n → l.length = n → l.take i = (marks f w k0 n).take i → loopF step (mk i (k0 + (w * i : Nat)) l) = some (ex (k0 + (w * n : Nat)) (marks f w k0 n)) := by
  intro m
  induction m with
  | zero =>
   intro i l h hl ht
   have e : i = n := by omega
   subst e
   have hl' : l = marks f w k0 i := by
    rw [List.take_of_length_le (by omega),List.take_of_length_le (by rw [marks_length]; exact Nat.le_refl _)] at ht
    exact ht
   rw [loop_out (he _ _ hl),hl']
  | succ m ih =>
   intro i l h hl ht
   have hi : i < n := by omega
   have hw : w * (i + 1) ≤ w * n := Nat.mul_le_mul_left w hi
   have hw2 : w * (i + 1) = w * i + w := Nat.mul_succ w i
   rw [loop_on (hs i _ l hi hl (by omega) (by omega))]
   have e : k0 + ((w * i : Nat) : Int) + (w : Int) = k0 + ((w * (i + 1) : Nat) : Int) := by omega
   rw [e]
   refine ih (i + 1) _ (by omega) (by rw [List.length_set]; exact hl) ?_
   rw [List.take_succ_eq_append_getElem (by rw [List.length_set]; omega),List.getElem_set_self,List.take_set_of_le (Nat.le_refl _),ht]
   rw [List.take_succ_eq_append_getElem (by rw [marks_length]; omega),marks_get]
 have := key n 0 l0 (by omega) h0 (by simp)
 simpa using this
theorem held_loop [Inhabited β] {step : γ → Option (γ ⊕ (Unit ⊕ τ))} (mk : Int → Int → γ) (w : Nat) (f : Int → β) (n : Nat) (B : Int) (late : Int → τ) (k0 : Int)
  (hs : ∀ (i : Nat) (k : Int),i < n → nth (marks f w k0 n) i = f k → 0 ≤ k → k + w ≤ B → step (mk i k) = some (.inl (mk (i + 1 : Nat) (k + w))))
  (he : ∀ k,step (mk n k) = some (.inr (.inr (late k)))) (hk : 0 ≤ k0) (hb : k0 + (w * n : Nat) ≤ B) :
  loopF step (mk 0 k0) = some (.inr (late (k0 + (w * n : Nat)))) := by
 have key : ∀ (m i : Nat),i + m = n → loopF step (mk i (k0 + (w * i : Nat))) = some (.inr (late (k0 + (w * n : Nat)))) := by
  intro m
  induction m with
  | zero =>
   intro i h
   have e : i = n := by omega
   subst e
   rw [loop_out (he _)]
  | succ m ih =>
   intro i h
   have hi : i < n := by omega
   have hw : w * (i + 1) ≤ w * n := Nat.mul_le_mul_left w hi
   have hw2 : w * (i + 1) = w * i + w := Nat.mul_succ w i
   rw [loop_on (hs i _ hi (nth_marks hi) (by omega) (by omega))]
   have e : k0 + ((w * i : Nat) : Int) + (w : Int) = k0 + ((w * (i + 1) : Nat) : Int) := by omega
   rw [e]
   exact ih (i + 1) (by omega)
 have := key n 0 (by omega)
 simpa using this
end
end Go.TL

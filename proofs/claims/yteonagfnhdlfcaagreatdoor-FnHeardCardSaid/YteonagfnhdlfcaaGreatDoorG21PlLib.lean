import Derived.Test.YteonagfnhdlfcaaGreatDoorG0TlCore
set_option linter.unusedSimpArgs false
set_option linter.unusedVariables false
namespace Go.TL
section
variable {α β σ ρ γ τ : Type}
def forI (body : Nat → σ → Option (σ ⊕ ρ)) : Nat → Nat → σ → Option (σ ⊕ ρ)
 | 0,_,s => some (.inl s)
 | n + 1,i,s => (body i s).bind fun y => match y with
  | .inl s' => forI body n (i + 1) s'
  | .inr e => some (.inr e)
theorem loop_forI {step : γ → Option (γ ⊕ τ)} (mk : Int → σ → γ) (body : Nat → σ → Option (σ ⊕ ρ)) (late : σ → τ) (early : ρ → τ) (inv : σ → Prop) (n : Nat)
  (hs : ∀ (i : Nat) (s : σ),i < n → inv s → step (mk i s) = (body i s).map fun y => match y with
   | .inl s' => .inl (mk (i + 1 : Nat) s')
   | .inr e => .inr (early e))
  (hi : ∀ (i : Nat) (s s' : σ),i < n → inv s → body i s = some (.inl s') → inv s')
  (he : ∀ s,inv s → step (mk n s) = some (.inr (late s))) :
  ∀ (m i : Nat) (s : σ),i + m = n → inv s → loopF step (mk i s) = (forI body m i s).map fun y => match y with
   | .inl s' => late s'
   | .inr e => early e
 | 0,i,s,h,hv => by
  have : i = n := by omega
  subst this
  exact loop_out (he s hv)
 | m + 1,i,s,h,hv => by
  have h1 := hs i s (by omega) hv
  unfold forI
  cases hb : body i s with
  | none =>
   rw [hb] at h1
   cases hl : loopF step (mk i s) with
   | none => rfl
   | some r =>
    obtain ⟨k,hk⟩ := loop_some hl
    cases hk with
    | out h' => rw [h1] at h'; cases h'
    | on h' _ => rw [h1] at h'; cases h'
  | some y =>
   rw [hb] at h1
   cases y with
   | inl s' =>
    rw [loop_on h1]
    exact loop_forI mk body late early inv n hs hi he m (i + 1) s' (by omega) (hi i s s' (by omega) hv hb)
   | inr e => exact loop_out h1
theorem nth_eq [Inhabited α] {l : List α} {n : Nat} (h : n < l.length) : nth l n = l[n] := by simp [nth,List.getD,h]
theorem nth_mem [Inhabited α] {l : List α} {n : Nat} (h : n < l.length) : nth l n ∈ l := by rw [nth_eq h]; exact List.getElem_mem h
theorem list_ext [Inhabited α] {a b : List α} (h : a.length = b.length) (hn : ∀ j,j < a.length → nth a j = nth b j) : a = b := by
 refine List.ext_getElem h fun j h1 h2 => ?_
 have := hn j h1
 rwa [nth_eq h1,nth_eq h2] at this
def eqFrom [Inhabited α] [DecidableEq α] (a b : List α) : Nat → Nat → Bool
 | 0,_ => true
 | m + 1,i => decide (nth a i = nth b i) && eqFrom a b m (i + 1)
theorem eqFrom_iff [Inhabited α] [DecidableEq α] (a b : List α) : ∀ m i,eqFrom a b m i = true ↔ ∀ j,i ≤ j → j < i + m → nth a j = nth b j
 | 0,i => ⟨fun _ j h1 h2 => by omega,fun _ => rfl⟩
 | m + 1,i => by
  unfold eqFrom
  rw [Bool.and_eq_true,eqFrom_iff a b m (i + 1),decide_eq_true_eq]
  refine ⟨fun ⟨h1,h2⟩ j h3 h4 => ?_,fun h => ⟨h i (Nat.le_refl _) (by omega),fun j h1 h2 => h j (by omega) (by omega)⟩⟩
  by_cases e : j = i
  ·rw [e]; exact h1
  ·exact h2 j (by omega) (by omega)
theorem eq_loop [Inhabited α] [DecidableEq α] {step : γ → Option (γ ⊕ (Unit ⊕ Unit))} (mk : Int → γ) (a b : List α) (hl : a.length = b.length)
  (hs : ∀ (i : Nat),i < a.length → step (mk i) = some (if nth a i = nth b i then .inl (mk (i + 1 : Nat)) else .inr (.inl ())))
  (he : step (mk a.length) = some (.inr (.inr ()))) : loopF step (mk 0) = some (if a = b then .inr () else .inl ()) := by
 have key := loop_forI (step := step) (σ := Unit) (ρ := Unit) (fun i _ => mk i) (fun i _ => some (if nth a i = nth b i then .inl () else .inr ())) (fun _ => (.inr () : Unit ⊕ Unit)) (fun _ => (.inl () : Unit ⊕ Unit)) (fun _ => True) a.length
  (fun i s hi _ => by rw [hs i hi]; split <;> rfl) (fun _ _ _ _ _ _ => trivial) (fun s _ => he)
 have hf : ∀ (m i : Nat),forI (σ := Unit) (ρ := Unit) (fun i _ => some (if nth a i = nth b i then .inl () else .inr ())) m i () = some (if eqFrom a b m i = true then .inl () else .inr ()) := by
  intro m
  induction m with
  | zero => intro i; rfl
  | succ m ih =>
   intro i
   unfold forI eqFrom
   by_cases e : nth a i = nth b i
   ·simp only [e,if_true,Option.bind_some,decide_true,Bool.true_and]
    exact ih (i + 1)
   ·simp [e]
 have := key a.length 0 () (by omega) trivial
 rw [hf] at this
 have e : eqFrom a b a.length 0 = true ↔ a = b := by
  rw [eqFrom_iff]
  exact ⟨fun h => list_ext hl fun j hj => h j (Nat.zero_le _) (by omega),fun h j _ _ => by rw [h]⟩
 refine this.trans ?_
 by_cases h : a = b
 ·rw [if_pos h,if_pos (e.2 h)]; rfl
 ·rw [if_neg h,if_neg (fun h' => h (e.1 h'))]; rfl
end
end Go.TL
namespace Go.TL
section
variable {α β σ ρ γ τ : Type}
theorem bytes_toList (s : ByteArray) : s.toList = s.data.toList := by
 have key : ∀ (n i : Nat) (r : List UInt8),i + n = s.size → ByteArray.toList.loop s i r = r.reverse ++ s.data.toList.drop i := by
  intro n
  induction n with
  | zero =>
   intro i r h
   unfold ByteArray.toList.loop
   rw [if_neg (by omega),List.drop_of_length_le (by rw [Array.length_toList]; exact Nat.le_of_eq (h.symm.trans (Nat.add_zero i)))]
   simp
  | succ n ih =>
   intro i r h
   unfold ByteArray.toList.loop
   rw [if_pos (by omega),ih (i + 1) _ (by omega)]
   have hi : i < s.data.toList.length := by
    have hsz : s.size = s.data.size := rfl
    rw [Array.length_toList]; omega
   rw [List.drop_eq_getElem_cons hi]
   have : s.get! i = s.data.toList[i] := by
    simp only [ByteArray.get!]
    rw [getElem!_pos s.data i (by simpa using hi)]
    simp
   rw [this]
   simp
 have := key s.size 0 [] (by omega)
 simpa [ByteArray.toList] using this
theorem bytes_inj {a b : ByteArray} (h : a.toList = b.toList) : a = b := by
 rw [bytes_toList,bytes_toList] at h
 cases a; cases b
 simp only [ByteArray.mk.injEq]
 exact Array.ext' h
theorem sEq (a b : ByteArray) : (a.toList == b.toList) = decide (a = b) := by
 by_cases h : a = b
 ·subst h; simp
 ·rw [decide_eq_false h,beq_eq_false_iff_ne]
  exact fun e => h (bytes_inj e)
def sumN : List Nat → Nat
 | [] => 0
 | x :: r => x + sumN r
end
end Go.TL
namespace Go.TL
end Go.TL
namespace Go.TL
section
variable {α β σ ρ γ τ : Type}
def allN (p : Nat → Bool) (n : Nat) : Bool := (List.range n).all p
theorem allN_iff {p : Nat → Bool} {n : Nat} : allN p n = true ↔ ∀ i,i < n → p i = true := by simp [allN,List.all_eq_true]
theorem allN_nth [Inhabited α] (l : List α) (p : α → Bool) : allN (fun i => p (nth l i)) l.length = l.all p := by
 rw [Bool.eq_iff_iff,allN_iff,List.all_eq_true]
 refine ⟨fun h x hx => ?_,fun h i hi => h _ (nth_mem hi)⟩
 obtain ⟨i,hi,rfl⟩ := List.getElem_of_mem hx
 have := h i hi
 rwa [nth_eq hi] at this
theorem all_loop {step : γ → Option (γ ⊕ τ)} (mk : Int → γ) (n : Nat) (p : Nat → Bool) (good bad : τ)
  (hs : ∀ (i : Nat),i < n → (∀ j,j < i → p j = true) → step (mk i) = some (if p i = true then .inl (mk (i + 1 : Nat)) else .inr bad))
  (he : (∀ j,j < n → p j = true) → step (mk n) = some (.inr good)) : loopF step (mk 0) = some (if allN p n = true then good else bad) := by
 have key : ∀ (m i : Nat),i + m = n → (∀ j,j < i → p j = true) → loopF step (mk i) = some (if allN p n = true then good else bad) := by
  intro m
  induction m with
  | zero =>
   intro i h hv
   have e : i = n := by omega
   subst e
   rw [loop_out (he hv),if_pos (allN_iff.2 hv)]
  | succ m ih =>
   intro i h hv
   have h1 := hs i (by omega) hv
   by_cases hp : p i = true
   ·rw [if_pos hp] at h1
    rw [loop_on h1]
    exact ih (i + 1) (by omega) fun j hj => by
     by_cases e : j = i
     ·rw [e]; exact hp
     ·exact hv j (by omega)
   ·rw [if_neg hp] at h1
    rw [loop_out h1,if_neg fun h => hp (allN_iff.1 h i (by omega))]
 exact key n 0 (by omega) fun j hj => by omega
def findN (p : Nat → Bool) (n : Nat) : Option Nat := (List.range n).find? p
theorem findN_some {p : Nat → Bool} {n i : Nat} (h1 : i < n) (h2 : p i = true) (h3 : ∀ j,j < i → p j = false) : findN p n = some i := by
 unfold findN
 rw [List.find?_range_eq_some]
 exact ⟨h2,by simpa using h1,fun j hj => by simp [h3 j hj]⟩
theorem findN_none {p : Nat → Bool} {n : Nat} (h : ∀ j,j < n → p j = false) : findN p n = none := by
 unfold findN
 rw [List.find?_eq_none]
 intro x hx
 simp [h x (List.mem_range.1 hx)]
theorem find_loop {step : γ → Option (γ ⊕ τ)} (mk : Int → γ) (n : Nat) (p : Nat → Bool) (early : Nat → τ) (late : τ)
  (hs : ∀ (i : Nat),i < n → (∀ j,j < i → p j = false) → step (mk i) = some (if p i = true then .inr (early i) else .inl (mk (i + 1 : Nat))))
  (he : step (mk n) = some (.inr late)) : loopF step (mk 0) = some (match findN p n with | some i => early i | none => late) := by
 have key : ∀ (m i : Nat),i + m = n → (∀ j,j < i → p j = false) → loopF step (mk i) = some (match findN p n with | some i => early i | none => late) := by
  intro m
  induction m with
  | zero =>
   intro i h hv
   have e : i = n := by omega
   subst e
   rw [loop_out he,findN_none hv]
  | succ m ih =>
   intro i h hv
   have h1 := hs i (by omega) hv
   by_cases hp : p i = true
   ·rw [if_pos hp] at h1
    rw [loop_out h1,findN_some (by omega) hp hv]
   ·rw [if_neg hp] at h1
    rw [loop_on h1]
    exact ih (i + 1) (by omega) fun j hj => by
     by_cases e : j = i
     ·rw [e]; simpa using hp
     ·exact hv j (by omega)
 exact key n 0 (by omega) fun j hj => by omega
theorem findN_any [Inhabited α] (l : List α) (p : α → Bool) : (findN (fun i => p (nth l i)) l.length).isSome = l.any p := by
 rw [Bool.eq_iff_iff,List.any_eq_true]
 unfold findN
 rw [List.find?_isSome]
 constructor
 ·rintro ⟨i,hi,hp⟩
  exact ⟨_,nth_mem (List.mem_range.1 hi),hp⟩
 ·rintro ⟨x,hx,hp⟩
  obtain ⟨i,hi,rfl⟩ := List.getElem_of_mem hx
  exact ⟨i,List.mem_range.2 hi,by rw [nth_eq hi]; exact hp⟩
end
end Go.TL
namespace Go.TL
section
variable {α β γ : Type}
def okO (Q : α → Prop) (o : Option α) : Prop := ∃ x,o = some x ∧ Q x
theorem okO.some {Q : α → Prop} {x : α} (h : Q x) : okO Q (Option.some x) := ⟨x,rfl,h⟩
theorem okO.mono {Q R : α → Prop} {o : Option α} (h : okO Q o) (hq : ∀ x,Q x → R x) : okO R o := let ⟨x,e,h⟩ := h; ⟨x,e,hq x h⟩
theorem okO.bind {P : α → Prop} {Q : β → Prop} {o : Option α} {f : α → Option β} (h : okO P o) (hf : ∀ x,P x → okO Q (f x)) : okO Q (o.bind f) := by
 obtain ⟨x,rfl,hx⟩ := h
 exact hf x hx
theorem okO.bind_some {Q : β → Prop} {x : α} {f : α → Option β} (h : okO Q (f x)) : okO Q ((Option.some x).bind f) := h
theorem okO.bind_bind {Q : γ → Prop} {o : Option α} {g : α → Option β} {f : β → Option γ} (h : okO Q (o.bind fun x => (g x).bind f)) : okO Q ((o.bind g).bind f) := by
 cases o <;> exact h
theorem okO.ite {Q : β → Prop} {c : Bool} {a b : Option β} (h1 : c = true → okO Q a) (h2 : c = false → okO Q b) : okO Q (if c = true then a else b) := by
 cases c
 ·exact h2 rfl
 ·exact h1 rfl
theorem okO.guard {Q : β → Prop} {p : Prop} [Decidable p] {k : Option β} (h : p) (hk : okO Q k) : okO Q (guardO p k) := by rw [guard_pos h]; exact hk
theorem okO.bind_guard {Q : β → Prop} {p : Prop} [Decidable p] {k : Option α} {f : α → Option β} (h : p) (hk : okO Q (k.bind f)) : okO Q ((guardO p k).bind f) := by rw [guard_pos h]; exact hk
theorem okO.of_eq {Q : β → Prop} {o o' : Option β} (e : o = o') (h : okO Q o') : okO Q o := e ▸ h
theorem okO.loop {σ ρ : Type} {step : σ → Option (σ ⊕ ρ)} (inv : σ → Prop) (meas : σ → Nat) {Q : ρ → Prop} {s : σ} (hs : inv s)
  (h : ∀ s,inv s → okO (fun y => match y with | .inl s' => inv s' ∧ meas s' < meas s | .inr r => Q r) (step s)) : okO Q (loopF step s) := by
 refine loop_ex inv meas Q (fun s hs => ?_) hs
 obtain ⟨y,e,hy⟩ := h s hs
 cases y with
 | inl s' => exact .inl ⟨s',e,hy.1,hy.2⟩
 | inr r => exact .inr ⟨r,e,hy⟩
end
end Go.TL
namespace Go.TL
section
variable {β γ τ : Type}
end
end Go.TL

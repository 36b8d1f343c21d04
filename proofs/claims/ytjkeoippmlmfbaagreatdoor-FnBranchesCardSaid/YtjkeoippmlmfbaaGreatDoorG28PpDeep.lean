import Derived.Test.YtjkeoippmlmfbaaGreatDoorG21PlR3M
import Derived.Test.YtjkeoippmlmfbaaGreatDoorG27PpR3D
import Derived.Test.YtjkeoippmlmfbaaGreatDoorG26PpR2D
set_option linter.unusedSimpArgs false
set_option linter.unusedVariables false
set_option linter.unusedVariables false
set_option linter.unusedSimpArgs false
set_option maxRecDepth 4000
namespace Go.TL
section
variable {β γ τ : Type}
end
end Go.TL
set_option linter.unusedVariables false
set_option linter.unusedSimpArgs false
set_option maxRecDepth 4000
namespace Go.TL
end Go.TL
set_option linter.unusedVariables false
set_option linter.unusedSimpArgs false
namespace Go.TL

theorem evs_same {a b : List EventT} (ha : histP a = true) (hb : histP b = true) : (cmpL a b).1 = 0 ↔ a = b := by
  unfold cmpL
  cases hf : firstD a b with
  | some i =>
    obtain ⟨h1,h2,h3⟩ := findN_lt hf
    simp only [ne_eq,decide_not,Bool.not_eq_true',decide_eq_false_iff_not] at h2
    simp only
    constructor
    · intro h; exact absurd h h2
    · intro h; subst h; exact absurd ((evC_zero _ _).2 ⟨rfl,rfl,rfl⟩) h2
  | none =>
    have h1 := findN_no hf
    simp only
    constructor
    · intro h
      have hl : a.length = b.length := by
        split at h
        · simp at h
        · split at h
          · simp at h
          · omega
      refine list_ext hl fun j hj => ?_
      have := h1 j (by omega)
      simp only [ne_eq,decide_not,Bool.not_eq_false',decide_eq_true_eq] at this
      exact (hist_same ha hb hj (by omega)).2 this
    · intro h; subst h; simp
end Go.TL
set_option linter.unusedVariables false
set_option linter.unusedSimpArgs false
set_option maxRecDepth 4000
namespace Go.TL
def smallT (t : TellingsT) : Prop := t.Branches.length ≤ 12 ∧ ∀ i,i < t.Branches.length → (nth t.Branches i).Events.length ≤ 60
theorem goodT_small {t : TellingsT} (h : goodT t = true) : smallT t := ⟨goodT_len h,fun i hi => hist_len (tell_hist (goodT_tell h hi))⟩
theorem take_snoc {α : Type} [Inhabited α] {l : List α} {i : Nat} (h : i < l.length) : l.take i ++ [nth l i] = l.take (i + 1) := by
  rw [nth_eq h]; simp
end Go.TL
set_option linter.unusedVariables false
set_option linter.unusedSimpArgs false
namespace Go.TL

theorem acc_loop {γ τ : Type} {step : γ → Option (γ ⊕ τ)} (mk : Int → Int → γ) (n : Nat) (f : Nat → Int) (late : Int → τ)
    (hs : ∀ i,i < n → step (mk (f i) i) = some (.inl (mk (f (i + 1)) (i + 1 : Nat)))) (he : step (mk (f n) n) = some (.inr (late (f n)))) : loopF step (mk (f 0) 0) = some (late (f n)) := by
  have key : ∀ (m i : Nat),i + m = n → loopF step (mk (f i) i) = some (late (f n)) := by
    intro m
    induction m with
    | zero =>
      intro i h
      have e : i = n := by omega
      subst e
      exact loop_out he
    | succ m ih =>
      intro i h
      rw [loop_on (hs i (by omega))]
      exact ih (i + 1) (by omega)
  exact key n 0 (by omega)

theorem firstD_sym (a b : List EventT) : firstD a b = firstD b a := by
  unfold firstD
  rw [Nat.min_comm]
  congr 1
  funext i
  congr 1
  apply propext
  rw [ne_eq,ne_eq,evC_zero,evC_zero]
  constructor <;> intro h e <;> exact h ⟨e.1.symm,e.2.1.symm,e.2.2.symm⟩
theorem cmpL_sym (a b : List EventT) : (cmpL a b).2 = (cmpL b a).2 := by
  rw [cmpL_snd,cmpL_snd,firstD_sym,Nat.min_comm]
theorem cmpL_le (a b : List EventT) : (cmpL a b).2 ≤ b.length := by
  rw [cmpL_snd]
  cases hf : firstD a b with
  | none => simp only; omega
  | some i =>
    unfold firstD at hf
    have := (findN_lt hf).1
    simp only; omega

def evsAt (t : TellingsT) (i : Nat) : List EventT := (nth t.Branches i).Events
def knI (t : TellingsT) (i : Nat) : Nat → Int
  | 0 => 0
  | k + 1 => max (knI t i k) (((cmpL (evsAt t k) (evsAt t i)).2 : Nat) : Int)
theorem knI_le (t : TellingsT) (i k : Nat) : 0 ≤ knI t i k ∧ knI t i k ≤ ((evsAt t i).length : Int) := by
  induction k with
  | zero => unfold knI; omega
  | succ k ih =>
    have := cmpL_le (evsAt t k) (evsAt t i)
    unfold knI
    rw [Int.max_def]
    split <;> omega
def totI (t : TellingsT) : Nat → Int
  | 0 => 0
  | i + 1 => totI t i + (((evsAt t i).length : Int) - knI t i i)
theorem totI_le (t : TellingsT) (h : ∀ i,i < t.Branches.length → (evsAt t i).length ≤ 60) (i : Nat) (hi : i ≤ t.Branches.length) : 0 ≤ totI t i ∧ totI t i ≤ 60 * (i : Int) := by
  induction i with
  | zero => unfold totI; omega
  | succ i ih =>
    have h1 := ih (by omega)
    have h2 := knI_le t i i
    have h3 := h i (by omega)
    unfold totI
    omega
def eventsP (t : TellingsT) : Int × Bool := if goodT t = true then (totI t t.Branches.length,true) else (0,false)
theorem impl_EventsIn_eq (t : TellingsT) (ht : ok_Tellings t) : impl_EventsIn t = some (eventsP t) := by
  unfold impl_EventsIn eventsP
  rw [impl_GoodTellings_eq _ ht]
  simp only [Option.bind_some]
  cases hg : goodT t
  · simp
  have h12 := goodT_len hg
  have h60 : ∀ i,i < t.Branches.length → (evsAt t i).length ≤ 60 := fun i hi => hist_len (tell_hist (goodT_tell hg hi))
  rw [if_neg (by simp),if_pos rfl]
  have key := acc_loop (step := impl_EventsIn_L1 t) (fun a i => (⟨a,i⟩ : impl_EventsIn_G1)) t.Branches.length (totI t) (fun a => (⟨a⟩ : impl_EventsIn_P1_0)) (fun i hi => ?_) ?_
  · have e : loopF (impl_EventsIn_L1 t) ⟨0,0⟩ = some ⟨totI t t.Branches.length⟩ := key
    rw [e]; rfl
  · have ht' : (t.Branches.take i).length = i := by rw [List.length_take]; omega
    unfold impl_EventsIn_L1
    simp only [Int.toNat_natCast]
    rw [if_pos (by rw [decide_eq_true_eq]; omega),guard_pos (by omega),guard_pos (by omega)]
    have key2 := acc_loop (step := impl_EventsIn_L2 t (⟨totI t i,(i : Int)⟩ : impl_EventsIn_G1)) (fun a k => (⟨a,k⟩ : impl_EventsIn_G2)) i (knI t i) (fun a => (⟨a⟩ : impl_EventsIn_P2_0)) (fun k hk => ?_) ?_
    · have e : loopF (impl_EventsIn_L2 t (⟨totI t i,(i : Int)⟩ : impl_EventsIn_G1)) ⟨0,0⟩ = some ⟨knI t i i⟩ := key2
      rw [e]
      have h1 := totI_le t h60 i (by omega)
      have h2 := knI_le t i i
      have h3 := h60 i hi
      have e1 : wI ((i : Int) + 1) = ((i + 1 : Nat) : Int) := by rw [wI_id (by omega)]; omega
      have e2 : wI ((((nth t.Branches i).Events.length : Nat) : Int) - knI t i i) = ((evsAt t i).length : Int) - knI t i i := wI_id (by unfold evsAt at *; omega)
      simp only [Option.bind_some,e1,e2]
      rw [wI_id (by omega)]
      rfl
    · unfold impl_EventsIn_L2
      simp only [Int.toNat_natCast,ht']
      rw [if_pos (by rw [decide_eq_true_eq]; omega),guard_pos (by omega),nth_take hk,impl_shared_eq _ _ (tell_hist (goodT_tell hg hi)) (tell_hist (goodT_tell hg (i := k) (by omega))),cmpL_sym]
      have e1 : wI ((k : Int) + 1) = ((k + 1 : Nat) : Int) := by rw [wI_id (by omega)]; omega
      simp only [Option.bind_some,e1]
      rfl
    · unfold impl_EventsIn_L2
      simp only [Int.toNat_natCast,ht']
      rw [if_neg (by rw [decide_eq_true_eq]; omega)]
  · unfold impl_EventsIn_L1
    dsimp only
    rw [if_neg (by rw [decide_eq_true_eq]; omega)]
end Go.TL
set_option linter.unusedVariables false
set_option linter.unusedSimpArgs false
set_option maxRecDepth 4000
namespace Go.TL
theorem evC_anti (a b : EventT) : evC b a = -evC a b := by
  unfold evC
  by_cases h1 : a.Version = b.Version
  · by_cases h2 : a.Kind = b.Kind
    · rcases sLt_tri a.Name b.Name with h | h | h
      · simp [h1,h2,h,sLt_asym h]
      · simp [h1,h2,h,sLt_irrefl]
      · simp [h1,h2,h,sLt_asym h]
    · simp only [h1,h2,Ne.symm h2,ne_eq,not_true_eq_false,if_false,not_false_eq_true,if_true]
      by_cases h : a.Kind < b.Kind
      · rw [if_pos h,if_neg (by omega)]; rfl
      · rw [if_neg h,if_pos (by omega)]
  · simp only [h1,Ne.symm h1,ne_eq,not_false_eq_true,if_true]
    by_cases h : a.Version < b.Version
    · rw [if_pos h,if_neg (by omega)]; rfl
    · rw [if_neg h,if_pos (by omega)]
theorem cmpL_anti (a b : List EventT) : (cmpL b a).1 = -(cmpL a b).1 := by
  unfold cmpL
  rw [firstD_sym b a]
  cases firstD a b with
  | some i => simp only; exact evC_anti _ _
  | none =>
    simp only
    by_cases h : a.length < b.length
    · simp [h,show ¬ b.length < a.length by omega]
    · by_cases h' : b.length < a.length
      · simp [h,h']
      · simp [h,h']
end Go.TL
set_option linter.unusedVariables false
set_option linter.unusedSimpArgs false
set_option maxRecDepth 4000
namespace Go.TL
theorem accL_loop {γ τ β : Type} {step : γ → Option (γ ⊕ τ)} (mk : Int → β → γ) (n : Nat) (f : Nat → β) (late : β → τ)
    (hs : ∀ i,i < n → step (mk i (f i)) = some (.inl (mk (i + 1 : Nat) (f (i + 1))))) (he : step (mk n (f n)) = some (.inr (late (f n)))) : loopF step (mk 0 (f 0)) = some (late (f n)) := by
  have key : ∀ (m i : Nat),i + m = n → loopF step (mk i (f i)) = some (late (f n)) := by
    intro m
    induction m with
    | zero =>
      intro i h
      have e : i = n := by omega
      subst e
      exact loop_out he
    | succ m ih =>
      intro i h
      rw [loop_on (hs i (by omega))]
      exact ih (i + 1) (by omega)
  exact key n 0 (by omega)
/-- One more name. -/
def stp (own out : List ByteArray) (n : ByteArray) : List ByteArray := if (hasS own n || hasS out n) = true then out else turnP out n
/-- Two rising rows of the same names are one. -/
theorem asc_ext {α : Type} {lt : α → α → Bool} (hi : ∀ x,lt x x = false) (ht : ∀ x y z,lt x y = true → lt y z = true → lt x z = true) : ∀ {a b : List α},(a.Pairwise fun x y => lt x y = true) → (b.Pairwise fun x y => lt x y = true) → (∀ x,x ∈ a ↔ x ∈ b) → a = b
  | [],b,_,_,h => by
    cases b with
    | nil => rfl
    | cons y q => have := (h y).2 (by simp); simp at this
  | x :: r,[],_,_,h => by have := (h x).1 (by simp); simp at this
  | x :: r,y :: q,ha,hb,h => by
    rw [List.pairwise_cons] at ha hb
    have e : x = y := by
      rcases List.mem_cons.1 ((h x).1 (by simp)) with h1 | h1
      · exact h1
      · rcases List.mem_cons.1 ((h y).2 (by simp)) with h2 | h2
        · exact h2.symm
        · have := ht x y x (ha.1 y h2) (hb.1 x h1)
          rw [hi] at this; cases this
    subst e
    have hx : ∀ z,lt x z = true → z ≠ x := fun z hz e => by rw [e,hi] at hz; cases hz
    rw [asc_ext hi ht ha.2 hb.2 fun z => ?_]
    constructor
    · intro hz
      rcases List.mem_cons.1 ((h z).1 (List.mem_cons_of_mem _ hz)) with h1 | h1
      · exact absurd h1 (hx z (ha.1 z hz))
      · exact h1
    · intro hz
      rcases List.mem_cons.1 ((h z).2 (List.mem_cons_of_mem _ hz)) with h1 | h1
      · exact absurd h1 (hx z (hb.1 z hz))
      · exact h1
end Go.TL

import Derived.Test.YtmooampfjclmiaaDoorG45PpState
import Derived.Test.YtmooampfjclmiaaDoorPlR4D
set_option linter.unusedSimpArgs false
set_option linter.unusedVariables false
set_option linter.unusedVariables false
set_option linter.unusedSimpArgs false
namespace Go.TL

theorem acc_loop {γ τ : Type} {step : γ → Option (γ ⊕ τ)} (mk : Int → Int → γ) (n : Nat) (f : Nat → Int) (late : Int → τ)
    (hs : ∀ i, i < n → step (mk (f i) i) = some (.inl (mk (f (i + 1)) (i + 1 : Nat)))) (he : step (mk (f n) n) = some (.inr (late (f n)))) : loopF step (mk (f 0) 0) = some (late (f n)) := by
  have key : ∀ (m i : Nat), i + m = n → loopF step (mk (f i) i) = some (late (f n)) := by
    intro m
    induction m with
    | zero =>
      intro i h
      have e : i = n := by omega
      subst e
      exact loop_out he
    | succ m ih =>
      intro i h
      rw [loop_on (hs i (by omega))]
      exact ih (i + 1) (by omega)
  exact key n 0 (by omega)

theorem firstD_sym (a b : List EventT) : firstD a b = firstD b a := by
  unfold firstD
  rw [Nat.min_comm]
  congr 1
  funext i
  congr 1
  apply propext
  rw [ne_eq, ne_eq, evC_zero, evC_zero]
  constructor <;> intro h e <;> exact h ⟨e.1.symm, e.2.1.symm, e.2.2.symm⟩
theorem cmpL_sym (a b : List EventT) : (cmpL a b).2 = (cmpL b a).2 := by
  rw [cmpL_snd, cmpL_snd, firstD_sym, Nat.min_comm]
theorem cmpL_le (a b : List EventT) : (cmpL a b).2 ≤ b.length := by
  rw [cmpL_snd]
  cases hf : firstD a b with
  | none => simp only; omega
  | some i =>
    unfold firstD at hf
    have := (findN_lt hf).1
    simp only; omega

def evsAt (t : TellingsT) (i : Nat) : List EventT := (nth t.Branches i).Events
def knI (t : TellingsT) (i : Nat) : Nat → Int
  | 0 => 0
  | k + 1 => max (knI t i k) (((cmpL (evsAt t k) (evsAt t i)).2 : Nat) : Int)
theorem knI_le (t : TellingsT) (i k : Nat) : 0 ≤ knI t i k ∧ knI t i k ≤ ((evsAt t i).length : Int) := by
  induction k with
  | zero => unfold knI; omega
  | succ k ih =>
    have := cmpL_le (evsAt t k) (evsAt t i)
    unfold knI
    rw [Int.max_def]
    split <;> omega
def totI (t : TellingsT) : Nat → Int
  | 0 => 0
  | i + 1 => totI t i + (((evsAt t i).length : Int) - knI t i i)
theorem totI_le (t : TellingsT) (h : ∀ i, i < t.Branches.length → (evsAt t i).length ≤ 60) (i : Nat) (hi : i ≤ t.Branches.length) : 0 ≤ totI t i ∧ totI t i ≤ 60 * (i : Int) := by
  induction i with
  | zero => unfold totI; omega
  | succ i ih =>
    have h1 := ih (by omega)
    have h2 := knI_le t i i
    have h3 := h i (by omega)
    unfold totI
    omega
def eventsP (t : TellingsT) : Int × Bool := if goodT t = true then (totI t t.Branches.length, true) else (0, false)
theorem spec_EventsIn_eq (t : TellingsT) (ht : ok_Tellings t) : spec_EventsIn t = some (eventsP t) := by
  have hev : ∀ i, i < t.Branches.length → ok_LEvent (nth t.Branches i).Events := fun i hi => ht.2 _ (nth_mem hi)
  unfold spec_EventsIn eventsP
  rw [spec_GoodTellings_eq _ ht]
  simp only [Option.bind_some]
  cases hg : goodT t
  · simp
  have h12 := goodT_len hg
  have h60 : ∀ i, i < t.Branches.length → (evsAt t i).length ≤ 60 := fun i hi => hist_len (tell_hist (goodT_tell hg hi))
  rw [if_neg (by simp), if_pos rfl]
  have key := acc_loop (step := spec_EventsIn_L1 t) (fun a i => (⟨a, i⟩ : spec_EventsIn_G1)) t.Branches.length (totI t) (fun a => (⟨a⟩ : spec_EventsIn_P1_0)) (fun i hi => ?_) ?_
  · have e : loopF (spec_EventsIn_L1 t) ⟨0, 0⟩ = some ⟨totI t t.Branches.length⟩ := key
    rw [e]; rfl
  · have ht' : (t.Branches.take i).length = i := by rw [List.length_take]; omega
    unfold spec_EventsIn_L1
    simp only [Int.toNat_natCast]
    rw [if_pos (by rw [decide_eq_true_eq]; omega), guard_pos (by omega), guard_pos (by omega)]
    have key2 := acc_loop (step := spec_EventsIn_L2 t (⟨totI t i, (i : Int)⟩ : spec_EventsIn_G1)) (fun a k => (⟨a, k⟩ : spec_EventsIn_G2)) i (knI t i) (fun a => (⟨a⟩ : spec_EventsIn_P2_0)) (fun k hk => ?_) ?_
    · have e : loopF (spec_EventsIn_L2 t (⟨totI t i, (i : Int)⟩ : spec_EventsIn_G1)) ⟨0, 0⟩ = some ⟨knI t i i⟩ := key2
      rw [e]
      have h1 := totI_le t h60 i (by omega)
      have h2 := knI_le t i i
      have h3 := h60 i hi
      have e1 : wI ((i : Int) + 1) = ((i + 1 : Nat) : Int) := by rw [wI_id (by omega)]; omega
      have e2 : wI ((((nth t.Branches i).Events.length : Nat) : Int) - knI t i i) = ((evsAt t i).length : Int) - knI t i i := wI_id (by unfold evsAt at *; omega)
      simp only [Option.bind_some, e1, e2]
      rw [wI_id (by omega)]
      rfl
    · unfold spec_EventsIn_L2
      simp only [Int.toNat_natCast, ht']
      rw [if_pos (by rw [decide_eq_true_eq]; omega), guard_pos (by omega), nth_take hk, spec_l15Compare_eq _ _ (hev k (by omega)).1 (hev i hi).1]
      have e1 : wI ((k : Int) + 1) = ((k + 1 : Nat) : Int) := by rw [wI_id (by omega)]; omega
      simp only [Option.bind_some, e1]
      have e2 : knI t i (k + 1) = max (knI t i k) (((cmpL (nth t.Branches k).Events (nth t.Branches i).Events).2 : Nat) : Int) := rfl
      rw [e2, Int.max_def]
      by_cases hc : (((cmpL (nth t.Branches k).Events (nth t.Branches i).Events).2 : Nat) : Int) > knI t i k
      · rw [if_pos (decide_eq_true hc), if_pos (by omega)]
      · rw [if_neg (by simpa using hc)]
        by_cases hd : knI t i k ≤ (((cmpL (nth t.Branches k).Events (nth t.Branches i).Events).2 : Nat) : Int)
        · rw [if_pos hd]
          have : knI t i k = (((cmpL (nth t.Branches k).Events (nth t.Branches i).Events).2 : Nat) : Int) := by omega
          rw [this]
        · rw [if_neg hd]
    · unfold spec_EventsIn_L2
      simp only [Int.toNat_natCast, ht']
      rw [if_neg (by rw [decide_eq_true_eq]; omega)]
  · unfold spec_EventsIn_L1
    dsimp only
    rw [if_neg (by rw [decide_eq_true_eq]; omega)]
theorem impl_EventsIn_eq (t : TellingsT) (ht : ok_Tellings t) : impl_EventsIn t = some (eventsP t) := by
  unfold impl_EventsIn eventsP
  rw [impl_GoodTellings_eq _ ht]
  simp only [Option.bind_some]
  cases hg : goodT t
  · simp
  have h12 := goodT_len hg
  have h60 : ∀ i, i < t.Branches.length → (evsAt t i).length ≤ 60 := fun i hi => hist_len (tell_hist (goodT_tell hg hi))
  rw [if_neg (by simp), if_pos rfl]
  have key := acc_loop (step := impl_EventsIn_L1 t) (fun a i => (⟨a, i⟩ : impl_EventsIn_G1)) t.Branches.length (totI t) (fun a => (⟨a⟩ : impl_EventsIn_P1_0)) (fun i hi => ?_) ?_
  · have e : loopF (impl_EventsIn_L1 t) ⟨0, 0⟩ = some ⟨totI t t.Branches.length⟩ := key
    rw [e]; rfl
  · have ht' : (t.Branches.take i).length = i := by rw [List.length_take]; omega
    unfold impl_EventsIn_L1
    simp only [Int.toNat_natCast]
    rw [if_pos (by rw [decide_eq_true_eq]; omega), guard_pos (by omega), guard_pos (by omega)]
    have key2 := acc_loop (step := impl_EventsIn_L2 t (⟨totI t i, (i : Int)⟩ : impl_EventsIn_G1)) (fun a k => (⟨a, k⟩ : impl_EventsIn_G2)) i (knI t i) (fun a => (⟨a⟩ : impl_EventsIn_P2_0)) (fun k hk => ?_) ?_
    · have e : loopF (impl_EventsIn_L2 t (⟨totI t i, (i : Int)⟩ : impl_EventsIn_G1)) ⟨0, 0⟩ = some ⟨knI t i i⟩ := key2
      rw [e]
      have h1 := totI_le t h60 i (by omega)
      have h2 := knI_le t i i
      have h3 := h60 i hi
      have e1 : wI ((i : Int) + 1) = ((i + 1 : Nat) : Int) := by rw [wI_id (by omega)]; omega
      have e2 : wI ((((nth t.Branches i).Events.length : Nat) : Int) - knI t i i) = ((evsAt t i).length : Int) - knI t i i := wI_id (by unfold evsAt at *; omega)
      simp only [Option.bind_some, e1, e2]
      rw [wI_id (by omega)]
      rfl
    · unfold impl_EventsIn_L2
      simp only [Int.toNat_natCast, ht']
      rw [if_pos (by rw [decide_eq_true_eq]; omega), guard_pos (by omega), nth_take hk, impl_shared_eq _ _ (tell_hist (goodT_tell hg hi)) (tell_hist (goodT_tell hg (i := k) (by omega))), cmpL_sym]
      have e1 : wI ((k : Int) + 1) = ((k + 1 : Nat) : Int) := by rw [wI_id (by omega)]; omega
      simp only [Option.bind_some, e1]
      rfl
    · unfold impl_EventsIn_L2
      simp only [Int.toNat_natCast, ht']
      rw [if_neg (by rw [decide_eq_true_eq]; omega)]
  · unfold impl_EventsIn_L1
    dsimp only
    rw [if_neg (by rw [decide_eq_true_eq]; omega)]
theorem events_holds (t : TellingsT) (ht : ok_Tellings t) : laws_FnExactEventsIn t = some true := by
  unfold laws_FnExactEventsIn
  rw [laws_szTellings_eq _ _ ht (by omega) (by omega)]
  simp only [Option.bind_some]
  by_cases h : (siz_Tellings t : Int) ≤ 1048576
  rotate_left
  · rw [if_pos (decide_eq_true (szr_no h))]
  rw [if_neg (by simpa using szr_ok h), laws_toTellings_eq _ (by omega)]
  simp only [Option.bind_some]
  rw [spec_EventsIn_eq _ ht, impl_EventsIn_eq _ ht, laws_eqTellings_eq _ _ (lk_of_Tellings ht)]
  simp
end Go.TL

import Derived.Test.YtjkeoippmlmfbaaGreatDoorG22PlR3M
import Derived.Test.YtjkeoippmlmfbaaGreatDoorG38PpState
import Derived.Test.YtjkeoippmlmfbaaGreatDoorG36PpDom
set_option linter.unusedSimpArgs false
set_option linter.unusedVariables false
set_option linter.unusedVariables false
set_option linter.unusedSimpArgs false
set_option maxRecDepth 4000
namespace Go.TL
section
variable {β γ τ : Type}
/-- Elements marked one behind the other, each as wide as it is. -/
def mseq (f : Int → β → β) (wd : β → Nat) : List β → Int → List β
  | [], _ => []
  | b :: r, k => f k b :: mseq f wd r (k + wd b)
def totw (wd : β → Nat) (l : List β) : Nat := sumN (l.map wd)
theorem totw_cons (wd : β → Nat) (b : β) (r : List β) : totw wd (b :: r) = wd b + totw wd r := rfl
theorem mseq_len (f : Int → β → β) (wd : β → Nat) : ∀ (l : List β) (k : Int), (mseq f wd l k).length = l.length
  | [], _ => rfl
  | b :: r, k => by simp [mseq, mseq_len f wd r]
theorem nth_app [Inhabited β] {p q : List β} {x : β} (h : p.length = q.length) (r : List β) : nth (p ++ x :: r) q.length = x := by
  unfold nth
  rw [List.getD_eq_getElem?_getD, ← h]
  simp
theorem markseq_loop [Inhabited β] {step : γ → Option (γ ⊕ τ)} (mk : Int → Int → List β → γ) (wd : β → Nat) (f : Int → β → β) (l0 : List β) (B : Int) (ex : Int → List β → τ)
    (hs : ∀ (i : Nat) (k : Int) (l : List β), i < l0.length → l.length = l0.length → nth l i = nth l0 i → 0 ≤ k → k + wd (nth l0 i) ≤ B → step (mk i k l) = some (.inl (mk (i + 1 : Nat) (k + wd (nth l0 i)) (l.set i (f k (nth l0 i))))))
    (he : ∀ k l, l.length = l0.length → step (mk l0.length k l) = some (.inr (ex k l))) (k0 : Int) (hk : 0 ≤ k0) (hb : k0 + totw wd l0 ≤ B) :
    loopF step (mk 0 k0 l0) = some (ex (k0 + totw wd l0) (mseq f wd l0 k0)) := by
  have key : ∀ (r p q : List β) (k : Int), l0 = p ++ r → q.length = p.length → 0 ≤ k → k + totw wd r ≤ B → loopF step (mk p.length k (q ++ r)) = some (ex (k + totw wd r) (q ++ mseq f wd r k)) := by
    intro r
    induction r with
    | nil =>
      intro p q k h hq hk hb
      have e : p.length = l0.length := by rw [h]; simp
      rw [e, loop_out (he _ _ (by simp [hq, e]))]
      simp [totw, sumN, mseq]
    | cons b r ih =>
      intro p q k h hq hk hb
      rw [totw_cons] at hb ⊢
      have hi : p.length < l0.length := by rw [h]; simp
      have hn : nth l0 p.length = b := by rw [h]; exact nth_app rfl r
      have hn2 : nth (q ++ b :: r) p.length = b := by rw [← hq]; exact nth_app rfl r
      have := hs p.length k (q ++ b :: r) hi (by rw [h]; simp [hq]) (by rw [hn, hn2]) hk (by rw [hn]; omega)
      rw [loop_on this, hn]
      have e1 : (q ++ b :: r).set p.length (f k b) = (q ++ [f k b]) ++ r := by
        rw [← hq, List.set_append_right _ _ (by omega)]; simp
      have e2 : ((p.length + 1 : Nat) : Int) = ((p ++ [b]).length : Int) := by simp
      rw [e1, e2, ih (p ++ [b]) (q ++ [f k b]) (k + wd b) (by rw [h]; simp) (by simp [hq]) (by omega) (by omega)]
      simp only [mseq, List.append_assoc, List.singleton_append]
      congr 2
      omega
  have := key l0 [] [] k0 rfl rfl hk hb
  simpa using this
end
theorem held_EventS_eq (n : Nat) (k : Int) (hk : 0 ≤ k) (hl : n ≤ 1099511627776) (hb : k + ((4 * n : Nat) : Int) ≤ 1152921504606846976) :
    laws_heldEventS (marks mEvent 4 k n) k = some (k + ((4 * n : Nat) : Int)) := by
  unfold laws_heldEventS
  have key := held_loop (step := laws_heldEventS_L1 (marks mEvent 4 k n)) (fun i k => (⟨k, i⟩ : laws_heldEventS_G1)) 4 mEvent n 1152921504606846976 (fun k => (⟨k⟩ : laws_heldEventS_P1_1)) k (fun i k' hi hn h0 h1 => ?_) (fun k' => ?_) hk hb
  · rw [key]; rfl
  · unfold laws_heldEventS_L1
    have e1 : wI (k' + 1) = k' + 1 := wI_id (by omega)
    have e2 : wI (k' + 1 + 1) = k' + 2 := by rw [wI_id (by omega)]; omega
    have e3 : wI (k' + 2 + 1) = k' + 3 := by rw [wI_id (by omega)]; omega
    have e4 : wI (k' + 3 + 1) = k' + 4 := by rw [wI_id (by omega)]; omega
    have e5 : wI ((i : Int) + 1) = ((i + 1 : Nat) : Int) := by rw [wI_id (by omega)]; omega
    simp only [e1, e2, e3, e4, e5]
    rw [if_pos (by simp [marks_length]; omega), markText_eq (k' + 3) (by omega) (by omega)]
    simp (disch := simp only [marks_length]; omega) only [Option.bind_some, guard_pos, Int.toNat_natCast]
    rw [if_neg (by simp [hn, mEvent]), if_neg (by simp [hn, mEvent]), if_neg (by simp [hn, mEvent]), if_neg (by simp [hn, mEvent])]
    rfl
  · unfold laws_heldEventS_L1
    rw [if_neg (by simp [marks_length])]
/-- A branch, marked. -/
noncomputable def mBranch (k : Int) (b : BranchT) : BranchT := ⟨marks mEvent 4 k b.Events.length⟩
def wBranch (b : BranchT) : Nat := 4 * b.Events.length
noncomputable abbrev mBrs (l : List BranchT) (k : Int) : List BranchT := mseq mBranch wBranch l k
abbrev nBrs (l : List BranchT) : Nat := totw wBranch l
theorem mark_BranchS_eq (l : List BranchT) (k : Int) (hk : 0 ≤ k) (hl : l.length ≤ 1099511627776) (hb : k + nBrs l ≤ 1099511627776) :
    laws_markBranchS_wd l k = some (k + nBrs l, mBrs l k) := by
  unfold laws_markBranchS_wd
  have key := markseq_loop (step := laws_markBranchS_wd_L1) (fun i k l => (⟨k, i, l⟩ : laws_markBranchS_wd_G1)) wBranch mBranch l 1099511627776 (fun k l => (⟨k, l⟩ : laws_markBranchS_wd_P1_0)) (fun i k l' hi hl' hn h0 h1 => ?_) (fun k l' hl' => ?_) k hk hb
  · rw [key]; rfl
  · unfold laws_markBranchS_wd_L1
    unfold wBranch at h1 ⊢
    dsimp only
    rw [if_pos (by simp; omega), guard_pos (by omega), guard_pos (by omega), Int.toNat_natCast, hn, mark_EventS_eq _ _ h0 (by omega) (by omega)]
    simp only [Option.bind_some]
    rw [guard_pos (marks_length ..), wI_id (by omega)]
    rfl
  · unfold laws_markBranchS_wd_L1
    rw [if_neg (by simp; omega)]
theorem mark_Tellings_eq (t : TellingsT) (k : Int) (hk : 0 ≤ k) (hl : t.Branches.length ≤ 1099511627776) (hb : k + nBrs t.Branches ≤ 1099511627776) :
    laws_markTellings_wd t k = some (k + nBrs t.Branches, mBrs t.Branches k) := by
  unfold laws_markTellings_wd
  rw [mark_BranchS_eq _ _ hk hl hb]
  simp only [Option.bind_some]
  rw [guard_pos (mseq_len ..)]
end Go.TL
set_option linter.unusedVariables false
set_option linter.unusedSimpArgs false
set_option maxRecDepth 4000
namespace Go.TL
end Go.TL
set_option linter.unusedVariables false
set_option linter.unusedSimpArgs false
namespace Go.TL

end Go.TL
set_option linter.unusedVariables false
set_option linter.unusedSimpArgs false
set_option maxRecDepth 4000
namespace Go.TL
theorem nBrs_size (l : List BranchT) : nBrs l ≤ 4 * sumN (l.map siz_Branch) := by
  induction l with
  | nil => simp [nBrs, totw, sumN]
  | cons b r ih =>
    have h : wBranch b ≤ 4 * siz_Branch b := by unfold wBranch siz_Branch siz_LEvent; omega
    unfold nBrs at ih ⊢
    rw [totw_cons]
    simp only [List.map_cons, sumN]
    omega
theorem tell_size {t : TellingsT} {n : Nat} (h : siz_Tellings t ≤ n) : t.Branches.length ≤ n ∧ nBrs t.Branches ≤ 4 * n := by
  have := nBrs_size t.Branches
  unfold siz_Tellings siz_LBranch at h
  omega
end Go.TL
set_option linter.unusedVariables false
set_option linter.unusedSimpArgs false
namespace Go.TL

theorem firstD_sym (a b : List EventT) : firstD a b = firstD b a := by
  unfold firstD
  rw [Nat.min_comm]
  congr 1
  funext i
  congr 1
  apply propext
  rw [ne_eq, ne_eq, evC_zero, evC_zero]
  constructor <;> intro h e <;> exact h ⟨e.1.symm, e.2.1.symm, e.2.2.symm⟩
end Go.TL
set_option linter.unusedVariables false
set_option linter.unusedSimpArgs false
set_option maxRecDepth 4000
namespace Go.TL
theorem evC_anti (a b : EventT) : evC b a = -evC a b := by
  unfold evC
  by_cases h1 : a.Version = b.Version
  · by_cases h2 : a.Kind = b.Kind
    · rcases sLt_tri a.Name b.Name with h | h | h
      · simp [h1, h2, h, sLt_asym h]
      · simp [h1, h2, h, sLt_irrefl]
      · simp [h1, h2, h, sLt_asym h]
    · simp only [h1, h2, Ne.symm h2, ne_eq, not_true_eq_false, if_false, not_false_eq_true, if_true]
      by_cases h : a.Kind < b.Kind
      · rw [if_pos h, if_neg (by omega)]; rfl
      · rw [if_neg h, if_pos (by omega)]
  · simp only [h1, Ne.symm h1, ne_eq, not_false_eq_true, if_true]
    by_cases h : a.Version < b.Version
    · rw [if_pos h, if_neg (by omega)]; rfl
    · rw [if_neg h, if_pos (by omega)]
theorem cmpL_anti (a b : List EventT) : (cmpL b a).1 = -(cmpL a b).1 := by
  unfold cmpL
  rw [firstD_sym b a]
  cases firstD a b with
  | some i => simp only; exact evC_anti _ _
  | none =>
    simp only
    by_cases h : a.length < b.length
    · simp [h, show ¬ b.length < a.length by omega]
    · by_cases h' : b.length < a.length
      · simp [h, h']
      · simp [h, h']
def bev (l : List BranchT) (i : Nat) : List EventT := (nth l i).Events
def lastV (l : List EventT) : Int := (nth l (l.length - 1)).Version
def betB (a b : List EventT) : Bool := decide (lastV b < lastV a) || (decide (lastV a = lastV b) && decide (b.length ≤ a.length))
def curI (l : List BranchT) : Nat → Nat
  | 0 => 0
  | i + 1 => if betB (bev l (i + 1)) (bev l (curI l i)) = true then i + 1 else curI l i
theorem curI_le (l : List BranchT) : ∀ i, curI l i ≤ i
  | 0 => by simp [curI]
  | i + 1 => by
    have := curI_le l i
    unfold curI
    split <;> omega
def fitB (l : List BranchT) : Prop := l.length ≤ 12 ∧ ∀ i, i < l.length → 0 < (bev l i).length ∧ (bev l i).length ≤ 60
def cur0I (l : List BranchT) : Int := if l.length = 0 then -1 else ((curI l (l.length - 1) : Nat) : Int)
theorem spec_l15Current_eq (l : List BranchT) (h : fitB l) : spec_l15Current l = some (cur0I l) := by
  unfold spec_l15Current cur0I
  by_cases h0 : l.length = 0
  · rw [if_pos h0]
    have : loopF (spec_l15Current_L1 l) ⟨(-1), 0⟩ = some ⟨-1⟩ := by
      apply loop_out
      unfold spec_l15Current_L1
      dsimp only
      rw [if_neg (by rw [decide_eq_true_eq]; omega)]
    rw [this]; rfl
  rw [if_neg h0]
  obtain ⟨hl, he⟩ := h
  have key : ∀ (m i : Nat), i + 1 + m = l.length → loopF (spec_l15Current_L1 l) ⟨((curI l i : Nat) : Int), ((i + 1 : Nat) : Int)⟩ = some ⟨((curI l (l.length - 1) : Nat) : Int)⟩ := by
    intro m
    induction m with
    | zero =>
      intro i hi
      have e : i = l.length - 1 := by omega
      apply loop_out
      unfold spec_l15Current_L1
      dsimp only
      rw [if_neg (by simp; omega), e]
    | succ m ih =>
      intro i hi
      have hc := curI_le l i
      have hs : spec_l15Current_L1 l ⟨((curI l i : Nat) : Int), ((i + 1 : Nat) : Int)⟩ = some (.inl ⟨((curI l (i + 1) : Nat) : Int), ((i + 2 : Nat) : Int)⟩) := by
        obtain ⟨a1, a2⟩ := he (i + 1) (by omega)
        obtain ⟨b1, b2⟩ := he (curI l i) (by omega)
        have e1 : wI (((i + 1 : Nat) : Int) + 1) = ((i + 2 : Nat) : Int) := by rw [wI_id (by omega)]; omega
        have e2 : curI l (i + 1) = if betB (bev l (i + 1)) (bev l (curI l i)) = true then i + 1 else curI l i := rfl
        have eA : wI ((((bev l (i + 1)).length : Nat) : Int) - 1) = (((bev l (i + 1)).length - 1 : Nat) : Int) := by rw [wI_id (by omega)]; omega
        have eB : wI ((((bev l (curI l i)).length : Nat) : Int) - 1) = (((bev l (curI l i)).length - 1 : Nat) : Int) := by rw [wI_id (by omega)]; omega
        have fA : (nth l (i + 1)).Events = bev l (i + 1) := rfl
        have fB : (nth l (curI l i)).Events = bev l (curI l i) := rfl
        unfold spec_l15Current_L1
        simp only [Int.toNat_natCast, fA, fB, eA, eB, e1]
        rw [if_pos (by rw [decide_eq_true_eq]; omega), guard_pos (by omega), if_neg (by simp), guard_pos (by omega), guard_pos (by omega), guard_pos (by omega), e2]
        have gA : (nth (bev l (i + 1)) ((bev l (i + 1)).length - 1)).Version = lastV (bev l (i + 1)) := rfl
        have gB : (nth (bev l (curI l i)) ((bev l (curI l i)).length - 1)).Version = lastV (bev l (curI l i)) := rfl
        rw [gA, gB]
        unfold betB
        by_cases c1 : lastV (bev l (curI l i)) < lastV (bev l (i + 1))
        · rw [if_pos (decide_eq_true c1)]
          simp [c1]
        · rw [if_neg (by simpa using c1)]
          by_cases c2 : lastV (bev l (i + 1)) = lastV (bev l (curI l i))
          · rw [if_pos (by simpa using c2)]
            by_cases c3 : (bev l (curI l i)).length ≤ (bev l (i + 1)).length
            · simp [c1, c2, c3]
            · simp [c1, c2, c3]
          · rw [if_neg (by simpa using c2)]
            simp [c1, c2]
      rw [loop_on hs]
      exact ih (i + 1) (by omega)
  have h1 : spec_l15Current_L1 l ⟨(-1), 0⟩ = some (.inl ⟨((curI l 0 : Nat) : Int), ((0 + 1 : Nat) : Int)⟩) := by
    unfold spec_l15Current_L1
    dsimp only
    rw [if_pos (by simp; omega), guard_pos (by omega), if_pos (by simp)]
    rfl
  rw [loop_on h1, key (l.length - 1) 0 (by omega)]
  rfl
theorem impl_version_eq (l : List EventT) (h1 : 0 < l.length) (h2 : l.length ≤ 60) : impl_version l = some (lastV l) := by
  have e : wI (((l.length : Nat) : Int) - 1) = ((l.length - 1 : Nat) : Int) := by rw [wI_id (by omega)]; omega
  unfold impl_version lastV
  rw [e, guard_pos (by omega), Int.toNat_natCast]
def ordB (l : List BranchT) : Prop := ∀ i k, i < l.length → k < i → (cmpL (bev l k) (bev l i)).1 < 0
theorem cur_c1_eq (a b : List EventT) (ha : 0 < a.length ∧ a.length ≤ 60) (hb : 0 < b.length ∧ b.length ≤ 60) (hc : (cmpL b a).1 < 0) : ∃ c, impl_current_c1 ⟨a⟩ ⟨b⟩ = some c ∧ decide (c > 0) = betB a b := by
  refine ⟨if cmpI (lastV a) (lastV b) ≠ 0 then cmpI (lastV a) (lastV b) else if cmpI ((a.length : Nat) : Int) ((b.length : Nat) : Int) ≠ 0 then cmpI ((a.length : Nat) : Int) ((b.length : Nat) : Int) else (cmpL a b).1, ?_, ?_⟩
  · unfold impl_current_c1
    simp only [impl_version_eq a ha.1 ha.2, impl_version_eq b hb.1 hb.2, cmp_int_eq, impl_branchOrder_eq a b (by omega) (by omega), Option.bind_some, cmpOr3]
  · have hp : 0 < (cmpL a b).1 := by rw [cmpL_anti b a]; omega
    unfold cmpI betB
    by_cases c1 : lastV a < lastV b
    · have n1 : ¬ lastV b < lastV a := by omega
      have n2 : ¬ lastV a = lastV b := by omega
      simp [c1, n1, n2]
    · by_cases c2 : lastV b < lastV a
      · simp [c1, c2]
      · have c3 : lastV a = lastV b := by omega
        by_cases d1 : a.length < b.length
        · simp [c3, d1]
        · by_cases d2 : b.length < a.length
          · have d3 : b.length ≤ a.length := by omega
            have d4 : ¬ ((a.length : Nat) : Int) < ((b.length : Nat) : Int) := by omega
            simp [c3, d1, d2, d3]
          · have d3 : a.length = b.length := by omega
            simp [c3, d3, hp]
theorem maxFunc_eq (l : List BranchT) (h : fitB l) (ho : ordB l) (h0 : 0 < l.length) : slices_MaxFunc_impl_Branch_impl_current_c1 l = some ⟨bev l (curI l (l.length - 1))⟩ := by
  obtain ⟨hl, he⟩ := h
  unfold slices_MaxFunc_impl_Branch_impl_current_c1
  rw [if_neg (by simp; omega)]
  simp only [Option.bind_some]
  rw [guard_pos (by omega)]
  have key : ∀ (m i : Nat), i + 1 + m = l.length → loopF (slices_MaxFunc_impl_Branch_impl_current_c1_L1 l) ⟨((i + 1 : Nat) : Int), bev l (curI l i)⟩ = some ⟨bev l (curI l (l.length - 1))⟩ := by
    intro m
    induction m with
    | zero =>
      intro i hi
      have e : i = l.length - 1 := by omega
      apply loop_out
      unfold slices_MaxFunc_impl_Branch_impl_current_c1_L1
      dsimp only
      rw [if_neg (by simp; omega), e]
    | succ m ih =>
      intro i hi
      have hc := curI_le l i
      have hs : slices_MaxFunc_impl_Branch_impl_current_c1_L1 l ⟨((i + 1 : Nat) : Int), bev l (curI l i)⟩ = some (.inl ⟨((i + 2 : Nat) : Int), bev l (curI l (i + 1))⟩) := by
        have e1 : wI (((i + 1 : Nat) : Int) + 1) = ((i + 2 : Nat) : Int) := by rw [wI_id (by omega)]; omega
        have e2 : curI l (i + 1) = if betB (bev l (i + 1)) (bev l (curI l i)) = true then i + 1 else curI l i := rfl
        obtain ⟨c, hc1, hc2⟩ := cur_c1_eq (bev l (i + 1)) (bev l (curI l i)) (he (i + 1) (by omega)) (he (curI l i) (by omega)) (ho (i + 1) (curI l i) (by omega) (by omega))
        have hc1' : impl_current_c1 (nth l (i + 1)) ⟨bev l (curI l i)⟩ = some c := hc1
        unfold slices_MaxFunc_impl_Branch_impl_current_c1_L1
        simp only [Int.toNat_natCast, e1]
        rw [if_pos (by rw [decide_eq_true_eq]; omega), guard_pos (by omega), hc1', e2]
        simp only [Option.bind_some]
        rw [hc2]
        cases betB (bev l (i + 1)) (bev l (curI l i))
        · rfl
        · rw [if_pos rfl, if_pos rfl, guard_pos (by omega)]; rfl
      rw [loop_on hs]
      exact ih (i + 1) (by omega)
  have := key (l.length - 1) 0 (by omega)
  have e0 : ((0 + 1 : Nat) : Int) = 1 := rfl
  rw [e0] at this
  have e1 : bev l (curI l 0) = (nth l 0).Events := rfl
  rw [e1] at this
  rw [this]
  rfl
def curE (t : TellingsT) : List EventT := if t.Branches.length = 0 then [] else bev t.Branches (curI t.Branches (t.Branches.length - 1))
theorem goodT_fit {t : TellingsT} (h : goodT t = true) : fitB t.Branches ∧ ordB t.Branches := by
  refine ⟨⟨goodT_len h, fun i hi => ?_⟩, fun i k hi hk => ?_⟩
  · have ht := goodT_tell h hi
    refine ⟨?_, hist_len (tell_hist ht)⟩
    unfold tellP at ht
    simp only [Bool.and_eq_true, decide_eq_true_eq] at ht
    exact ht.1
  · unfold goodT at h
    simp only [Bool.and_eq_true, decide_eq_true_eq, allN_iff] at h
    exact ((h.2 i hi).2 k hk).1
theorem impl_current_eq (t : TellingsT) (h : goodT t = true) : impl_current t = some (curE t) := by
  obtain ⟨hf, ho⟩ := goodT_fit h
  unfold impl_current curE
  by_cases h0 : t.Branches.length = 0
  · rw [if_pos (by simp [h0]), if_pos h0]
  · rw [if_neg (by simp; exact fun e => h0 (by rw [e]; rfl)), if_neg h0, maxFunc_eq _ hf ho (by omega)]
    rfl
def curD (t : TellingsT) : List EventT × Bool := if (goodT t && decide (0 < t.Branches.length)) = true then (curE t, true) else ([], false)
theorem curE_len {t : TellingsT} (h : goodT t = true) : (curE t).length ≤ 60 := by
  obtain ⟨hf, ho⟩ := goodT_fit h
  unfold curE
  by_cases h0 : t.Branches.length = 0
  · rw [if_pos h0]; simp
  · rw [if_neg h0]
    have := curI_le t.Branches (t.Branches.length - 1)
    exact (hf.2 _ (by omega)).2
theorem spec_CurrentOf_eq (t : TellingsT) (ht : ok_Tellings t) : spec_CurrentOf t = some (curD t) := by
  unfold spec_CurrentOf curD
  rw [spec_GoodTellings_eq _ ht]
  simp only [Option.bind_some]
  cases hg : goodT t
  · simp
  obtain ⟨hf, ho⟩ := goodT_fit hg
  have hle := curE_len hg
  rw [if_pos rfl, spec_l15Current_eq _ hf]
  simp only [Option.bind_some]
  unfold cur0I
  by_cases h0 : t.Branches.length = 0
  · rw [if_pos h0, if_pos (by simp), if_neg (by rw [Bool.true_and, decide_eq_true_eq]; omega)]
  · have hc := curI_le t.Branches (t.Branches.length - 1)
    have e : curE t = (nth t.Branches (curI t.Branches (t.Branches.length - 1))).Events := by unfold curE; rw [if_neg h0]; rfl
    rw [if_neg h0, if_neg (by simp), guard_pos (by omega), Int.toNat_natCast, ← e, if_pos (by simp; omega)]
    unfold spec_l15OwnEvents
    rw [guard_pos (by omega)]
    rfl
theorem impl_CurrentOf_eq (t : TellingsT) (ht : ok_Tellings t) : impl_CurrentOf t = some (curD t) := by
  unfold impl_CurrentOf curD
  rw [impl_GoodTellings_eq _ ht]
  simp only [Option.bind_some]
  cases hg : goodT t
  · simp
  have hle := curE_len hg
  rw [if_neg (by simp)]
  simp only [Option.bind_some]
  by_cases h0 : t.Branches.length = 0
  · rw [if_pos (by simp [h0]), if_neg (by rw [Bool.true_and, decide_eq_true_eq]; omega)]
  · rw [if_neg (by simp; exact fun e => h0 (by rw [e]; rfl)), impl_current_eq t hg, if_pos (by simp; omega)]
    unfold slices_Clone_impl_Event
    simp only [Option.bind_some]
    rw [guard_pos (by omega)]
    rfl
theorem curD_len {t : TellingsT} : (curD t).1.length ≤ 60 := by
  unfold curD
  split
  · rename_i h
    simp only [Bool.and_eq_true] at h
    exact curE_len h.1
  · simp
theorem current_holds (t : TellingsT) (ht : ok_Tellings t) : laws_FnExactCurrentOf t = some true := by
  unfold laws_FnExactCurrentOf
  rw [laws_szTellings_eq _ _ ht (by omega) (by omega)]
  simp only [Option.bind_some]
  by_cases h : (siz_Tellings t : Int) ≤ 1048576
  rotate_left
  · rw [if_pos (decide_eq_true (szr_no h))]
  obtain ⟨z1, z2⟩ := tell_size (t := t) (n := 1048576) (by omega)
  have z3 := curD_len (t := t)
  rw [if_neg (by simpa using szr_ok h), laws_toTellings_eq _ (by omega)]
  simp only [Option.bind_some]
  rw [spec_CurrentOf_eq _ ht, impl_CurrentOf_eq _ ht]
  simp only [Option.bind_some]
  have hlk : lk_LEvent (curD t).1 := ⟨by omega, fun y _ => ⟨trivial, trivial, trivial, trivial⟩⟩
  rw [laws_eqEventS_eq _ _ hlk, laws_eqTellings_eq _ _ (lk_of_Tellings ht)]
  simp only [Option.bind_some, decide_true, Bool.not_true, beq_self_eq_true, Bool.false_eq_true, if_false]
  rw [mark_Tellings_eq t 1 (by omega) (by omega) (by omega), mark_EventS_eq _ 1 (by omega) (by omega) (by omega)]
  simp only [Option.bind_some]
  rw [guard_pos (mseq_len ..), if_neg (by simp; omega)]
  simp only [Option.bind_some, Bool.false_eq_true, if_false]
  rw [guard_pos (marks_length ..), held_EventS_eq _ 1 (by omega) (by omega) (by omega)]
  simp only [Option.bind_some]
  rw [if_neg (by simp; omega), if_neg (by simp), if_neg (by simp; omega), if_neg (by simp)]
end Go.TL

import Derived.Test.YtjkeoippmlmfbaaGreatDoorG22PlR3M
import Derived.Test.YtjkeoippmlmfbaaGreatDoorG38PpState
import Derived.Test.YtjkeoippmlmfbaaGreatDoorG36PpDom
set_option linter.unusedSimpArgs false
set_option linter.unusedVariables false
set_option linter.unusedVariables false
set_option linter.unusedSimpArgs false
set_option maxRecDepth 4000
namespace Go.TL
section
variable {β γ τ : Type}
/-- Elements marked one behind the other, each as wide as it is. -/
def mseq (f : Int → β → β) (wd : β → Nat) : List β → Int → List β
  | [], _ => []
  | b :: r, k => f k b :: mseq f wd r (k + wd b)
def totw (wd : β → Nat) (l : List β) : Nat := sumN (l.map wd)
theorem totw_cons (wd : β → Nat) (b : β) (r : List β) : totw wd (b :: r) = wd b + totw wd r := rfl
theorem mseq_len (f : Int → β → β) (wd : β → Nat) : ∀ (l : List β) (k : Int), (mseq f wd l k).length = l.length
  | [], _ => rfl
  | b :: r, k => by simp [mseq, mseq_len f wd r]
theorem nth_app [Inhabited β] {p q : List β} {x : β} (h : p.length = q.length) (r : List β) : nth (p ++ x :: r) q.length = x := by
  unfold nth
  rw [List.getD_eq_getElem?_getD, ← h]
  simp
theorem markseq_loop [Inhabited β] {step : γ → Option (γ ⊕ τ)} (mk : Int → Int → List β → γ) (wd : β → Nat) (f : Int → β → β) (l0 : List β) (B : Int) (ex : Int → List β → τ)
    (hs : ∀ (i : Nat) (k : Int) (l : List β), i < l0.length → l.length = l0.length → nth l i = nth l0 i → 0 ≤ k → k + wd (nth l0 i) ≤ B → step (mk i k l) = some (.inl (mk (i + 1 : Nat) (k + wd (nth l0 i)) (l.set i (f k (nth l0 i))))))
    (he : ∀ k l, l.length = l0.length → step (mk l0.length k l) = some (.inr (ex k l))) (k0 : Int) (hk : 0 ≤ k0) (hb : k0 + totw wd l0 ≤ B) :
    loopF step (mk 0 k0 l0) = some (ex (k0 + totw wd l0) (mseq f wd l0 k0)) := by
  have key : ∀ (r p q : List β) (k : Int), l0 = p ++ r → q.length = p.length → 0 ≤ k → k + totw wd r ≤ B → loopF step (mk p.length k (q ++ r)) = some (ex (k + totw wd r) (q ++ mseq f wd r k)) := by
    intro r
    induction r with
    | nil =>
      intro p q k h hq hk hb
      have e : p.length = l0.length := by rw [h]; simp
      rw [e, loop_out (he _ _ (by simp [hq, e]))]
      simp [totw, sumN, mseq]
    | cons b r ih =>
      intro p q k h hq hk hb
      rw [totw_cons] at hb ⊢
      have hi : p.length < l0.length := by rw [h]; simp
      have hn : nth l0 p.length = b := by rw [h]; exact nth_app rfl r
      have hn2 : nth (q ++ b :: r) p.length = b := by rw [← hq]; exact nth_app rfl r
      have := hs p.length k (q ++ b :: r) hi (by rw [h]; simp [hq]) (by rw [hn, hn2]) hk (by rw [hn]; omega)
      rw [loop_on this, hn]
      have e1 : (q ++ b :: r).set p.length (f k b) = (q ++ [f k b]) ++ r := by
        rw [← hq, List.set_append_right _ _ (by omega)]; simp
      have e2 : ((p.length + 1 : Nat) : Int) = ((p ++ [b]).length : Int) := by simp
      rw [e1, e2, ih (p ++ [b]) (q ++ [f k b]) (k + wd b) (by rw [h]; simp) (by simp [hq]) (by omega) (by omega)]
      simp only [mseq, List.append_assoc, List.singleton_append]
      congr 2
      omega
  have := key l0 [] [] k0 rfl rfl hk hb
  simpa using this
end
/-- A branch, marked. -/
noncomputable def mBranch (k : Int) (b : BranchT) : BranchT := ⟨marks mEvent 4 k b.Events.length⟩
def wBranch (b : BranchT) : Nat := 4 * b.Events.length
noncomputable abbrev mBrs (l : List BranchT) (k : Int) : List BranchT := mseq mBranch wBranch l k
abbrev nBrs (l : List BranchT) : Nat := totw wBranch l
theorem mark_BranchS_eq (l : List BranchT) (k : Int) (hk : 0 ≤ k) (hl : l.length ≤ 1099511627776) (hb : k + nBrs l ≤ 1099511627776) :
    laws_markBranchS_wd l k = some (k + nBrs l, mBrs l k) := by
  unfold laws_markBranchS_wd
  have key := markseq_loop (step := laws_markBranchS_wd_L1) (fun i k l => (⟨k, i, l⟩ : laws_markBranchS_wd_G1)) wBranch mBranch l 1099511627776 (fun k l => (⟨k, l⟩ : laws_markBranchS_wd_P1_0)) (fun i k l' hi hl' hn h0 h1 => ?_) (fun k l' hl' => ?_) k hk hb
  · rw [key]; rfl
  · unfold laws_markBranchS_wd_L1
    unfold wBranch at h1 ⊢
    dsimp only
    rw [if_pos (by simp; omega), guard_pos (by omega), guard_pos (by omega), Int.toNat_natCast, hn, mark_EventS_eq _ _ h0 (by omega) (by omega)]
    simp only [Option.bind_some]
    rw [guard_pos (marks_length ..), wI_id (by omega)]
    rfl
  · unfold laws_markBranchS_wd_L1
    rw [if_neg (by simp; omega)]
theorem mark_Tellings_eq (t : TellingsT) (k : Int) (hk : 0 ≤ k) (hl : t.Branches.length ≤ 1099511627776) (hb : k + nBrs t.Branches ≤ 1099511627776) :
    laws_markTellings_wd t k = some (k + nBrs t.Branches, mBrs t.Branches k) := by
  unfold laws_markTellings_wd
  rw [mark_BranchS_eq _ _ hk hl hb]
  simp only [Option.bind_some]
  rw [guard_pos (mseq_len ..)]
theorem mark_Region_eq (r : RegionT) (k : Int) (hk : 0 ≤ k) (hl : r.Tellings.Branches.length ≤ 1099511627776) (hb : k + nBrs r.Tellings.Branches ≤ 1099511627776) :
    laws_markRegion_wd r k = some (k + nBrs r.Tellings.Branches, mBrs r.Tellings.Branches k) := by
  unfold laws_markRegion_wd
  rw [mark_Tellings_eq _ _ hk hl hb]
  simp only [Option.bind_some]
  rw [guard_pos (mseq_len ..)]
end Go.TL
set_option linter.unusedVariables false
set_option linter.unusedSimpArgs false
set_option maxRecDepth 4000
namespace Go.TL
def ok_Region (x : RegionT) : Prop := ok_I x.Id ∧ ok_I x.Version ∧ ok_Tellings x.Tellings
def siz_Region (x : RegionT) : Nat := siz_I x.Id + siz_I x.Version + siz_Tellings x.Tellings
def lk_Region (x : RegionT) : Prop := lk_I x.Id ∧ lk_I x.Version ∧ lk_Tellings x.Tellings
theorem lk_of_Region {x : RegionT} (h : ok_Region x) : lk_Region x := ⟨lk_of_I h.1, lk_of_I h.2.1, lk_of_Tellings h.2.2⟩
theorem laws_szRegion_eq (a : RegionT) (n : Int) (ha : ok_Region a) (h0 : 0 ≤ n) (h1 : n ≤ 4611686018427387904) : laws_szRegion a n = some (szr (siz_Region a) n) := by
  unfold laws_szRegion
  unfold ok_Region at ha
  unfold siz_Region
  have z_Id : siz_I a.Id = 0 := siz0_I _
  rw [z_Id]
  have z_Version : siz_I a.Version = 0 := siz0_I _
  rw [z_Version]
  rw [laws_szTellings_eq _ _ (ha.2.2) (by omega) (by omega)]
  simp only [Option.bind_some]
  by_cases c0 : (siz_Tellings a.Tellings : Int) ≤ n
  rotate_left
  · have e : szr (siz_Tellings a.Tellings) n = -1 := by unfold szr; rw [if_neg c0]
    rw [e, if_pos (by decide)]; unfold szr; rw [if_neg (by omega)]
  have e0 : szr (siz_Tellings a.Tellings) n = n - (siz_Tellings a.Tellings : Int) := by unfold szr; rw [if_pos c0]
  rw [e0, if_neg (by simp; omega)]
  unfold szr; rw [if_pos (by omega)]
  congr 1; omega
theorem laws_toRegion_eq (a : RegionT) (ha : siz_Region a ≤ 4194304) : laws_toRegion a = some a := by
  unfold siz_Region at ha
  unfold laws_toRegion
  rw [laws_toTellings_eq _ (by omega)]
  simp only [Option.bind_some]
  all_goals rfl
theorem laws_eqRegion_eq (a b : RegionT) (ha : lk_Region a) : laws_eqRegion a b = some (decide (a = b)) := by
  unfold lk_Region at ha
  unfold laws_eqRegion
  rw [laws_eqTellings_eq _ _ (ha.2.2)]
  obtain ⟨x0, x1, x2⟩ := a
  obtain ⟨y0, y1, y2⟩ := b
  simp only [sEq, Option.bind_some, RegionT.mk.injEq]
  by_cases h0 : x0 = y0
  rotate_left
  · simp [h0]
  by_cases h1 : x1 = y1
  rotate_left
  · simp [h1]
  by_cases h2 : x2 = y2
  rotate_left
  · simp [h2]
  simp [h0, h1, h2]
end Go.TL
set_option linter.unusedVariables false
set_option linter.unusedSimpArgs false
namespace Go.TL

/-- No event is of a greater version. -/
def oldE (v : Int) (l : List EventT) : Bool := l.all fun e => !decide (e.Version > v)
def oldT (v : Int) (t : TellingsT) : Bool := t.Branches.all fun b => oldE v b.Events
def wordP (v : Int) (t : TellingsT) : Bool := verP v && goodT t && oldT v t
def goodR (r : RegionT) : Bool := decide (0 ≤ r.Id ∧ r.Id ≤ 9) && wordP r.Version r.Tellings
theorem spec_GoodRegion_eq (r : RegionT) (hr : ok_Region r) : spec_GoodRegion r = some (goodR r) := by
  have ht : ok_Tellings r.Tellings := hr.2.2
  have h1 : r.Tellings.Branches.length ≤ 9223372036854775807 := ht.1
  unfold spec_GoodRegion spec_l13Version goodR wordP
  simp only [spec_l1In_eq, spec_GoodTellings_eq _ ht, Option.bind_some]
  have key := all_loop (step := spec_GoodRegion_L1 r) (fun i => (⟨i⟩ : spec_GoodRegion_G1)) r.Tellings.Branches.length (fun i => oldE r.Version (nth r.Tellings.Branches i).Events) (.inr () : Unit ⊕ Unit) (.inl ()) (fun i hi hv => ?_) (fun _ => ?_)
  · rw [key, allN_nth r.Tellings.Branches fun b => oldE r.Version b.Events]
    unfold oldT verP
    cases decide (0 ≤ r.Id ∧ r.Id ≤ 9) <;> cases decide (0 ≤ r.Version ∧ r.Version ≤ 1000000) <;> cases goodT r.Tellings <;> cases (r.Tellings.Branches.all fun b => oldE r.Version b.Events) <;> simp
  · have h2 : ok_LEvent (nth r.Tellings.Branches i).Events := ht.2 _ (nth_mem hi)
    have h3 := h2.1
    unfold spec_GoodRegion_L1
    dsimp only
    rw [if_pos (by rw [decide_eq_true_eq]; omega), guard_pos (by omega)]
    have e1 : wI ((i : Int) + 1) = ((i + 1 : Nat) : Int) := by rw [wI_id (by omega)]; omega
    rw [e1]
    have key2 := all_loop (step := spec_GoodRegion_L2 r (⟨(i : Int)⟩ : spec_GoodRegion_G1)) (fun k => (⟨k⟩ : spec_GoodRegion_G2)) (nth r.Tellings.Branches i).Events.length (fun k => !decide ((nth (nth r.Tellings.Branches i).Events k).Version > r.Version)) (.inr () : Unit ⊕ Unit) (.inl ()) (fun k hk _ => ?_) (fun _ => ?_)
    · rw [key2, allN_nth (nth r.Tellings.Branches i).Events fun e => !decide (e.Version > r.Version)]
      unfold oldE
      split <;> rfl
    · unfold spec_GoodRegion_L2
      simp only [Int.toNat_natCast]
      have e2 : wI ((k : Int) + 1) = ((k + 1 : Nat) : Int) := by rw [wI_id (by omega)]; omega
      rw [if_pos (by rw [decide_eq_true_eq]; omega), guard_pos (by omega), e2]
      cases decide ((nth (nth r.Tellings.Branches i).Events k).Version > r.Version) <;> rfl
    · unfold spec_GoodRegion_L2
      simp only [Int.toNat_natCast]
      rw [if_neg (by rw [decide_eq_true_eq]; omega)]
  · unfold spec_GoodRegion_L1
    dsimp only
    rw [if_neg (by rw [decide_eq_true_eq]; omega)]
theorem impl_old_eq (l : List EventT) (v : Int) (hl : l.length ≤ 9223372036854775807) : slices_ContainsFunc_impl_Event_impl_wordOk_c1_c1r l v = some (!oldE v l) := by
  unfold slices_ContainsFunc_impl_Event_impl_wordOk_c1_c1r slices_IndexFunc_impl_Event_impl_wordOk_c1_c1r
  have key := find_loop (step := slices_IndexFunc_impl_Event_impl_wordOk_c1_c1r_L1 l v) (fun i => (⟨i⟩ : slices_IndexFunc_impl_Event_impl_wordOk_c1_c1r_G1)) l.length (fun i => decide ((nth l i).Version > v))
    (fun i => (.inl ⟨i⟩ : slices_IndexFunc_impl_Event_impl_wordOk_c1_c1r_P1_0 ⊕ Unit)) (.inr ()) (fun i hi hv => ?_) ?_
  · rw [key]
    have e := findN_any l fun e => decide (e.Version > v)
    have e2 : (!oldE v l) = (l.any fun e => decide (e.Version > v)) := by
      unfold oldE
      rw [Bool.eq_iff_iff]; simp
    rw [e2, ← e]
    cases findN (fun i => decide ((nth l i).Version > v)) l.length with
    | none => rfl
    | some i => simp
  · unfold slices_IndexFunc_impl_Event_impl_wordOk_c1_c1r_L1 impl_wordOk_c1_c1_r
    dsimp only
    have e1 : wI ((i : Int) + 1) = ((i + 1 : Nat) : Int) := by rw [wI_id (by omega)]; omega
    rw [if_pos (by rw [decide_eq_true_eq]; omega), guard_pos (by omega), e1]
    simp only [Option.bind_some, Int.toNat_natCast]
    cases decide ((nth l i).Version > v) <;> rfl
  · unfold slices_IndexFunc_impl_Event_impl_wordOk_c1_c1r_L1
    dsimp only
    rw [if_neg (by rw [decide_eq_true_eq]; omega)]
theorem impl_oldT_eq (t : TellingsT) (v : Int) (ht : ok_Tellings t) : slices_ContainsFunc_impl_Branch_impl_wordOk_c1r t.Branches v = some (!oldT v t) := by
  have h1 : t.Branches.length ≤ 9223372036854775807 := ht.1
  unfold slices_ContainsFunc_impl_Branch_impl_wordOk_c1r slices_IndexFunc_impl_Branch_impl_wordOk_c1r
  have key := find_loop (step := slices_IndexFunc_impl_Branch_impl_wordOk_c1r_L1 t.Branches v) (fun i => (⟨i⟩ : slices_IndexFunc_impl_Branch_impl_wordOk_c1r_G1)) t.Branches.length (fun i => !oldE v (nth t.Branches i).Events)
    (fun i => (.inl ⟨i⟩ : slices_IndexFunc_impl_Branch_impl_wordOk_c1r_P1_0 ⊕ Unit)) (.inr ()) (fun i hi hv => ?_) ?_
  · rw [key]
    have e := findN_any t.Branches fun b => !oldE v b.Events
    have e2 : (!oldT v t) = (t.Branches.any fun b => !oldE v b.Events) := by
      unfold oldT
      rw [Bool.eq_iff_iff]; simp
    rw [e2, ← e]
    cases findN (fun i => !oldE v (nth t.Branches i).Events) t.Branches.length with
    | none => rfl
    | some i => simp
  · unfold slices_IndexFunc_impl_Branch_impl_wordOk_c1r_L1 impl_wordOk_c1_r
    dsimp only
    have e1 : wI ((i : Int) + 1) = ((i + 1 : Nat) : Int) := by rw [wI_id (by omega)]; omega
    rw [if_pos (by rw [decide_eq_true_eq]; omega), guard_pos (by omega), e1, Int.toNat_natCast, impl_old_eq _ _ (ht.2 _ (nth_mem hi)).1]
    simp only [Option.bind_some]
    cases oldE v (nth t.Branches i).Events <;> rfl
  · unfold slices_IndexFunc_impl_Branch_impl_wordOk_c1r_L1
    dsimp only
    rw [if_neg (by rw [decide_eq_true_eq]; omega)]
theorem impl_wordOk_eq (v : Int) (t : TellingsT) (ht : ok_Tellings t) : impl_wordOk v t = some (wordP v t) := by
  unfold impl_wordOk impl_isVersion wordP verP
  simp only [impl_in_eq, impl_GoodTellings_eq _ ht, impl_oldT_eq _ _ ht, Option.bind_some]
  cases decide (0 ≤ v ∧ v ≤ 1000000) <;> cases goodT t <;> simp
theorem impl_GoodRegion_eq (r : RegionT) (hr : ok_Region r) : impl_GoodRegion r = some (goodR r) := by
  unfold impl_GoodRegion impl_isRegion goodR
  simp only [impl_in_eq, impl_wordOk_eq _ _ hr.2.2, Option.bind_some]
  cases decide (0 ≤ r.Id ∧ r.Id ≤ 9) <;> simp
theorem goodR_tell {r : RegionT} (h : goodR r = true) : goodT r.Tellings = true := by
  unfold goodR wordP at h
  simp only [Bool.and_eq_true] at h
  exact h.2.1.2
end Go.TL
set_option linter.unusedVariables false
set_option linter.unusedSimpArgs false
set_option maxRecDepth 4000
namespace Go.TL
theorem nBrs_size (l : List BranchT) : nBrs l ≤ 4 * sumN (l.map siz_Branch) := by
  induction l with
  | nil => simp [nBrs, totw, sumN]
  | cons b r ih =>
    have h : wBranch b ≤ 4 * siz_Branch b := by unfold wBranch siz_Branch siz_LEvent; omega
    unfold nBrs at ih ⊢
    rw [totw_cons]
    simp only [List.map_cons, sumN]
    omega
theorem tell_size {t : TellingsT} {n : Nat} (h : siz_Tellings t ≤ n) : t.Branches.length ≤ n ∧ nBrs t.Branches ≤ 4 * n := by
  have := nBrs_size t.Branches
  unfold siz_Tellings siz_LBranch at h
  omega
end Go.TL
set_option linter.unusedVariables false
set_option linter.unusedSimpArgs false
namespace Go.TL

theorem firstD_sym (a b : List EventT) : firstD a b = firstD b a := by
  unfold firstD
  rw [Nat.min_comm]
  congr 1
  funext i
  congr 1
  apply propext
  rw [ne_eq, ne_eq, evC_zero, evC_zero]
  constructor <;> intro h e <;> exact h ⟨e.1.symm, e.2.1.symm, e.2.2.symm⟩
end Go.TL
set_option linter.unusedVariables false
set_option linter.unusedSimpArgs false
set_option maxRecDepth 4000
namespace Go.TL
theorem evC_anti (a b : EventT) : evC b a = -evC a b := by
  unfold evC
  by_cases h1 : a.Version = b.Version
  · by_cases h2 : a.Kind = b.Kind
    · rcases sLt_tri a.Name b.Name with h | h | h
      · simp [h1, h2, h, sLt_asym h]
      · simp [h1, h2, h, sLt_irrefl]
      · simp [h1, h2, h, sLt_asym h]
    · simp only [h1, h2, Ne.symm h2, ne_eq, not_true_eq_false, if_false, not_false_eq_true, if_true]
      by_cases h : a.Kind < b.Kind
      · rw [if_pos h, if_neg (by omega)]; rfl
      · rw [if_neg h, if_pos (by omega)]
  · simp only [h1, Ne.symm h1, ne_eq, not_false_eq_true, if_true]
    by_cases h : a.Version < b.Version
    · rw [if_pos h, if_neg (by omega)]; rfl
    · rw [if_neg h, if_pos (by omega)]
theorem cmpL_anti (a b : List EventT) : (cmpL b a).1 = -(cmpL a b).1 := by
  unfold cmpL
  rw [firstD_sym b a]
  cases firstD a b with
  | some i => simp only; exact evC_anti _ _
  | none =>
    simp only
    by_cases h : a.length < b.length
    · simp [h, show ¬ b.length < a.length by omega]
    · by_cases h' : b.length < a.length
      · simp [h, h']
      · simp [h, h']
def bev (l : List BranchT) (i : Nat) : List EventT := (nth l i).Events
def lastV (l : List EventT) : Int := (nth l (l.length - 1)).Version
def betB (a b : List EventT) : Bool := decide (lastV b < lastV a) || (decide (lastV a = lastV b) && decide (b.length ≤ a.length))
def curI (l : List BranchT) : Nat → Nat
  | 0 => 0
  | i + 1 => if betB (bev l (i + 1)) (bev l (curI l i)) = true then i + 1 else curI l i
theorem curI_le (l : List BranchT) : ∀ i, curI l i ≤ i
  | 0 => by simp [curI]
  | i + 1 => by
    have := curI_le l i
    unfold curI
    split <;> omega
def fitB (l : List BranchT) : Prop := l.length ≤ 12 ∧ ∀ i, i < l.length → 0 < (bev l i).length ∧ (bev l i).length ≤ 60
def cur0I (l : List BranchT) : Int := if l.length = 0 then -1 else ((curI l (l.length - 1) : Nat) : Int)
theorem spec_l15Current_eq (l : List BranchT) (h : fitB l) : spec_l15Current l = some (cur0I l) := by
  unfold spec_l15Current cur0I
  by_cases h0 : l.length = 0
  · rw [if_pos h0]
    have : loopF (spec_l15Current_L1 l) ⟨(-1), 0⟩ = some ⟨-1⟩ := by
      apply loop_out
      unfold spec_l15Current_L1
      dsimp only
      rw [if_neg (by rw [decide_eq_true_eq]; omega)]
    rw [this]; rfl
  rw [if_neg h0]
  obtain ⟨hl, he⟩ := h
  have key : ∀ (m i : Nat), i + 1 + m = l.length → loopF (spec_l15Current_L1 l) ⟨((curI l i : Nat) : Int), ((i + 1 : Nat) : Int)⟩ = some ⟨((curI l (l.length - 1) : Nat) : Int)⟩ := by
    intro m
    induction m with
    | zero =>
      intro i hi
      have e : i = l.length - 1 := by omega
      apply loop_out
      unfold spec_l15Current_L1
      dsimp only
      rw [if_neg (by simp; omega), e]
    | succ m ih =>
      intro i hi
      have hc := curI_le l i
      have hs : spec_l15Current_L1 l ⟨((curI l i : Nat) : Int), ((i + 1 : Nat) : Int)⟩ = some (.inl ⟨((curI l (i + 1) : Nat) : Int), ((i + 2 : Nat) : Int)⟩) := by
        obtain ⟨a1, a2⟩ := he (i + 1) (by omega)
        obtain ⟨b1, b2⟩ := he (curI l i) (by omega)
        have e1 : wI (((i + 1 : Nat) : Int) + 1) = ((i + 2 : Nat) : Int) := by rw [wI_id (by omega)]; omega
        have e2 : curI l (i + 1) = if betB (bev l (i + 1)) (bev l (curI l i)) = true then i + 1 else curI l i := rfl
        have eA : wI ((((bev l (i + 1)).length : Nat) : Int) - 1) = (((bev l (i + 1)).length - 1 : Nat) : Int) := by rw [wI_id (by omega)]; omega
        have eB : wI ((((bev l (curI l i)).length : Nat) : Int) - 1) = (((bev l (curI l i)).length - 1 : Nat) : Int) := by rw [wI_id (by omega)]; omega
        have fA : (nth l (i + 1)).Events = bev l (i + 1) := rfl
        have fB : (nth l (curI l i)).Events = bev l (curI l i) := rfl
        unfold spec_l15Current_L1
        simp only [Int.toNat_natCast, fA, fB, eA, eB, e1]
        rw [if_pos (by rw [decide_eq_true_eq]; omega), guard_pos (by omega), if_neg (by simp), guard_pos (by omega), guard_pos (by omega), guard_pos (by omega), e2]
        have gA : (nth (bev l (i + 1)) ((bev l (i + 1)).length - 1)).Version = lastV (bev l (i + 1)) := rfl
        have gB : (nth (bev l (curI l i)) ((bev l (curI l i)).length - 1)).Version = lastV (bev l (curI l i)) := rfl
        rw [gA, gB]
        unfold betB
        by_cases c1 : lastV (bev l (curI l i)) < lastV (bev l (i + 1))
        · rw [if_pos (decide_eq_true c1)]
          simp [c1]
        · rw [if_neg (by simpa using c1)]
          by_cases c2 : lastV (bev l (i + 1)) = lastV (bev l (curI l i))
          · rw [if_pos (by simpa using c2)]
            by_cases c3 : (bev l (curI l i)).length ≤ (bev l (i + 1)).length
            · simp [c1, c2, c3]
            · simp [c1, c2, c3]
          · rw [if_neg (by simpa using c2)]
            simp [c1, c2]
      rw [loop_on hs]
      exact ih (i + 1) (by omega)
  have h1 : spec_l15Current_L1 l ⟨(-1), 0⟩ = some (.inl ⟨((curI l 0 : Nat) : Int), ((0 + 1 : Nat) : Int)⟩) := by
    unfold spec_l15Current_L1
    dsimp only
    rw [if_pos (by simp; omega), guard_pos (by omega), if_pos (by simp)]
    rfl
  rw [loop_on h1, key (l.length - 1) 0 (by omega)]
  rfl
theorem impl_version_eq (l : List EventT) (h1 : 0 < l.length) (h2 : l.length ≤ 60) : impl_version l = some (lastV l) := by
  have e : wI (((l.length : Nat) : Int) - 1) = ((l.length - 1 : Nat) : Int) := by rw [wI_id (by omega)]; omega
  unfold impl_version lastV
  rw [e, guard_pos (by omega), Int.toNat_natCast]
def ordB (l : List BranchT) : Prop := ∀ i k, i < l.length → k < i → (cmpL (bev l k) (bev l i)).1 < 0
theorem cur_c1_eq (a b : List EventT) (ha : 0 < a.length ∧ a.length ≤ 60) (hb : 0 < b.length ∧ b.length ≤ 60) (hc : (cmpL b a).1 < 0) : ∃ c, impl_current_c1 ⟨a⟩ ⟨b⟩ = some c ∧ decide (c > 0) = betB a b := by
  refine ⟨if cmpI (lastV a) (lastV b) ≠ 0 then cmpI (lastV a) (lastV b) else if cmpI ((a.length : Nat) : Int) ((b.length : Nat) : Int) ≠ 0 then cmpI ((a.length : Nat) : Int) ((b.length : Nat) : Int) else (cmpL a b).1, ?_, ?_⟩
  · unfold impl_current_c1
    simp only [impl_version_eq a ha.1 ha.2, impl_version_eq b hb.1 hb.2, cmp_int_eq, impl_branchOrder_eq a b (by omega) (by omega), Option.bind_some, cmpOr3]
  · have hp : 0 < (cmpL a b).1 := by rw [cmpL_anti b a]; omega
    unfold cmpI betB
    by_cases c1 : lastV a < lastV b
    · have n1 : ¬ lastV b < lastV a := by omega
      have n2 : ¬ lastV a = lastV b := by omega
      simp [c1, n1, n2]
    · by_cases c2 : lastV b < lastV a
      · simp [c1, c2]
      · have c3 : lastV a = lastV b := by omega
        by_cases d1 : a.length < b.length
        · simp [c3, d1]
        · by_cases d2 : b.length < a.length
          · have d3 : b.length ≤ a.length := by omega
            have d4 : ¬ ((a.length : Nat) : Int) < ((b.length : Nat) : Int) := by omega
            simp [c3, d1, d2, d3]
          · have d3 : a.length = b.length := by omega
            simp [c3, d3, hp]
theorem maxFunc_eq (l : List BranchT) (h : fitB l) (ho : ordB l) (h0 : 0 < l.length) : slices_MaxFunc_impl_Branch_impl_current_c1 l = some ⟨bev l (curI l (l.length - 1))⟩ := by
  obtain ⟨hl, he⟩ := h
  unfold slices_MaxFunc_impl_Branch_impl_current_c1
  rw [if_neg (by simp; omega)]
  simp only [Option.bind_some]
  rw [guard_pos (by omega)]
  have key : ∀ (m i : Nat), i + 1 + m = l.length → loopF (slices_MaxFunc_impl_Branch_impl_current_c1_L1 l) ⟨((i + 1 : Nat) : Int), bev l (curI l i)⟩ = some ⟨bev l (curI l (l.length - 1))⟩ := by
    intro m
    induction m with
    | zero =>
      intro i hi
      have e : i = l.length - 1 := by omega
      apply loop_out
      unfold slices_MaxFunc_impl_Branch_impl_current_c1_L1
      dsimp only
      rw [if_neg (by simp; omega), e]
    | succ m ih =>
      intro i hi
      have hc := curI_le l i
      have hs : slices_MaxFunc_impl_Branch_impl_current_c1_L1 l ⟨((i + 1 : Nat) : Int), bev l (curI l i)⟩ = some (.inl ⟨((i + 2 : Nat) : Int), bev l (curI l (i + 1))⟩) := by
        have e1 : wI (((i + 1 : Nat) : Int) + 1) = ((i + 2 : Nat) : Int) := by rw [wI_id (by omega)]; omega
        have e2 : curI l (i + 1) = if betB (bev l (i + 1)) (bev l (curI l i)) = true then i + 1 else curI l i := rfl
        obtain ⟨c, hc1, hc2⟩ := cur_c1_eq (bev l (i + 1)) (bev l (curI l i)) (he (i + 1) (by omega)) (he (curI l i) (by omega)) (ho (i + 1) (curI l i) (by omega) (by omega))
        have hc1' : impl_current_c1 (nth l (i + 1)) ⟨bev l (curI l i)⟩ = some c := hc1
        unfold slices_MaxFunc_impl_Branch_impl_current_c1_L1
        simp only [Int.toNat_natCast, e1]
        rw [if_pos (by rw [decide_eq_true_eq]; omega), guard_pos (by omega), hc1', e2]
        simp only [Option.bind_some]
        rw [hc2]
        cases betB (bev l (i + 1)) (bev l (curI l i))
        · rfl
        · rw [if_pos rfl, if_pos rfl, guard_pos (by omega)]; rfl
      rw [loop_on hs]
      exact ih (i + 1) (by omega)
  have := key (l.length - 1) 0 (by omega)
  have e0 : ((0 + 1 : Nat) : Int) = 1 := rfl
  rw [e0] at this
  have e1 : bev l (curI l 0) = (nth l 0).Events := rfl
  rw [e1] at this
  rw [this]
  rfl
def curE (t : TellingsT) : List EventT := if t.Branches.length = 0 then [] else bev t.Branches (curI t.Branches (t.Branches.length - 1))
theorem goodT_fit {t : TellingsT} (h : goodT t = true) : fitB t.Branches ∧ ordB t.Branches := by
  refine ⟨⟨goodT_len h, fun i hi => ?_⟩, fun i k hi hk => ?_⟩
  · have ht := goodT_tell h hi
    refine ⟨?_, hist_len (tell_hist ht)⟩
    unfold tellP at ht
    simp only [Bool.and_eq_true, decide_eq_true_eq] at ht
    exact ht.1
  · unfold goodT at h
    simp only [Bool.and_eq_true, decide_eq_true_eq, allN_iff] at h
    exact ((h.2 i hi).2 k hk).1
theorem impl_current_eq (t : TellingsT) (h : goodT t = true) : impl_current t = some (curE t) := by
  obtain ⟨hf, ho⟩ := goodT_fit h
  unfold impl_current curE
  by_cases h0 : t.Branches.length = 0
  · rw [if_pos (by simp [h0]), if_pos h0]
  · rw [if_neg (by simp; exact fun e => h0 (by rw [e]; rfl)), if_neg h0, maxFunc_eq _ hf ho (by omega)]
    rfl
theorem curE_ok {t : TellingsT} (ht : ok_Tellings t) : ok_LEvent (curE t) := by
  unfold curE
  by_cases h0 : t.Branches.length = 0
  · rw [if_pos h0]; exact ⟨by simp, by simp⟩
  · rw [if_neg h0]
    have := curI_le t.Branches (t.Branches.length - 1)
    exact ht.2 _ (nth_mem (by omega))
def stD (r : RegionT) : StateT × Bool := if goodR r = true then ((foldP (curE r.Tellings)).1, true) else (⟨0, 0, false, 0, [], []⟩, false)
theorem spec_StateOf_eq (r : RegionT) (hr : ok_Region r) : spec_StateOf r = some (stD r) := by
  unfold spec_StateOf stD spec_l16History
  rw [spec_GoodRegion_eq _ hr]
  simp only [Option.bind_some]
  cases hg : goodR r
  · simp
  have hgt := goodR_tell hg
  obtain ⟨hf, ho⟩ := goodT_fit hgt
  have hok := curE_ok hr.2.2
  rw [if_neg (by simp), if_pos rfl, spec_l15Current_eq _ hf]
  simp only [Option.bind_some]
  have e : (if decide (cur0I r.Tellings.Branches < 0) = true then some ([] : List EventT) else guardO (0 ≤ cur0I r.Tellings.Branches ∧ cur0I r.Tellings.Branches < (r.Tellings.Branches.length : Int)) (some (nth r.Tellings.Branches (cur0I r.Tellings.Branches).toNat).Events)) = some (curE r.Tellings) := by
    unfold cur0I curE
    by_cases h0 : r.Tellings.Branches.length = 0
    · rw [if_pos h0, if_pos (by simp), if_pos h0]
    · have hc := curI_le r.Tellings.Branches (r.Tellings.Branches.length - 1)
      rw [if_neg h0, if_neg (by simp), if_neg h0, guard_pos (by omega), Int.toNat_natCast]
      rfl
  rw [e]
  simp only [Option.bind_some]
  obtain ⟨f1, f2⟩ := foldP_len (curE r.Tellings)
  rw [spec_l12Fold_eq _ hok]
  simp only [Option.bind_some]
  unfold spec_l12Own
  rw [guard_pos (by omega), guard_pos (by omega)]
  rfl
theorem impl_StateOf_eq (r : RegionT) (hr : ok_Region r) : impl_StateOf r = some (stD r) := by
  unfold impl_StateOf stD impl_Region_state_r
  rw [impl_GoodRegion_eq _ hr]
  simp only [Option.bind_some]
  cases hg : goodR r
  · simp
  have hgt := goodR_tell hg
  have hok := curE_ok hr.2.2
  rw [if_neg (by simp), if_pos rfl, impl_current_eq _ hgt]
  simp only [Option.bind_some]
  rw [impl_FoldEvents_eq _ hok.1]
  rfl
theorem stD_len (r : RegionT) : (stD r).1.Signals.length ≤ 30 ∧ (stD r).1.Timers.length ≤ 30 := by
  unfold stD
  split
  · exact foldP_len _
  · simp
theorem state_holds (r : RegionT) (hr : ok_Region r) : laws_FnExactStateOf r = some true := by
  unfold laws_FnExactStateOf
  rw [laws_szRegion_eq _ _ hr (by omega) (by omega)]
  simp only [Option.bind_some]
  by_cases h : (siz_Region r : Int) ≤ 1048576
  rotate_left
  · rw [if_pos (decide_eq_true (szr_no h))]
  have hz : siz_Tellings r.Tellings ≤ 1048576 := by unfold siz_Region at h; omega
  obtain ⟨z1, z2⟩ := tell_size hz
  obtain ⟨z3, z4⟩ := stD_len r
  rw [if_neg (by simpa using szr_ok h), laws_toRegion_eq _ (by omega)]
  simp only [Option.bind_some]
  rw [spec_StateOf_eq _ hr, impl_StateOf_eq _ hr]
  simp only [Option.bind_some]
  have hk : lk_State (stD r).1 := ⟨trivial, trivial, trivial, trivial, ⟨by omega, fun y _ => trivial⟩, ⟨by omega, fun y _ => trivial⟩⟩
  rw [laws_eqState_eq _ _ hk, laws_eqRegion_eq _ _ (lk_of_Region hr)]
  simp only [Option.bind_some, decide_true, Bool.not_true, beq_self_eq_true, Bool.false_eq_true, if_false]
  rw [mark_Region_eq r 1 (by omega) (by omega) (by omega), mark_State_eq _ 1 (by omega) (by omega) (by omega) (by omega)]
  simp only [Option.bind_some]
  rw [guard_pos (mseq_len ..), if_neg (by simp; omega)]
  simp only [Option.bind_some, Bool.false_eq_true, if_false]
  rw [guard_pos (marks_length ..), guard_pos (marks_length ..), held_State_eq _ _ _ _ _ _ 1 (by omega) (by omega) (by omega) (by omega)]
  simp only [Option.bind_some]
  rw [if_neg (by simp; omega), if_neg (by simp), if_neg (by simp; omega), if_neg (by simp)]
end Go.TL

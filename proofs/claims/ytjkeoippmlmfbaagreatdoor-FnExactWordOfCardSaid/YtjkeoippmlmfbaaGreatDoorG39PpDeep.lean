import Derived.Test.YtjkeoippmlmfbaaGreatDoorG22PlR3M
import Derived.Test.YtjkeoippmlmfbaaGreatDoorG38PpState
import Derived.Test.YtjkeoippmlmfbaaGreatDoorG36PpDom
set_option linter.unusedSimpArgs false
set_option linter.unusedVariables false
set_option linter.unusedVariables false
set_option linter.unusedSimpArgs false
set_option maxRecDepth 4000
namespace Go.TL
section
variable {β γ τ : Type}
/-- Elements marked one behind the other, each as wide as it is. -/
def mseq (f : Int → β → β) (wd : β → Nat) : List β → Int → List β
  | [], _ => []
  | b :: r, k => f k b :: mseq f wd r (k + wd b)
def totw (wd : β → Nat) (l : List β) : Nat := sumN (l.map wd)
theorem totw_cons (wd : β → Nat) (b : β) (r : List β) : totw wd (b :: r) = wd b + totw wd r := rfl
theorem mseq_len (f : Int → β → β) (wd : β → Nat) : ∀ (l : List β) (k : Int), (mseq f wd l k).length = l.length
  | [], _ => rfl
  | b :: r, k => by simp [mseq, mseq_len f wd r]
theorem nth_app [Inhabited β] {p q : List β} {x : β} (h : p.length = q.length) (r : List β) : nth (p ++ x :: r) q.length = x := by
  unfold nth
  rw [List.getD_eq_getElem?_getD, ← h]
  simp
theorem markseq_loop [Inhabited β] {step : γ → Option (γ ⊕ τ)} (mk : Int → Int → List β → γ) (wd : β → Nat) (f : Int → β → β) (l0 : List β) (B : Int) (ex : Int → List β → τ)
    (hs : ∀ (i : Nat) (k : Int) (l : List β), i < l0.length → l.length = l0.length → nth l i = nth l0 i → 0 ≤ k → k + wd (nth l0 i) ≤ B → step (mk i k l) = some (.inl (mk (i + 1 : Nat) (k + wd (nth l0 i)) (l.set i (f k (nth l0 i))))))
    (he : ∀ k l, l.length = l0.length → step (mk l0.length k l) = some (.inr (ex k l))) (k0 : Int) (hk : 0 ≤ k0) (hb : k0 + totw wd l0 ≤ B) :
    loopF step (mk 0 k0 l0) = some (ex (k0 + totw wd l0) (mseq f wd l0 k0)) := by
  have key : ∀ (r p q : List β) (k : Int), l0 = p ++ r → q.length = p.length → 0 ≤ k → k + totw wd r ≤ B → loopF step (mk p.length k (q ++ r)) = some (ex (k + totw wd r) (q ++ mseq f wd r k)) := by
    intro r
    induction r with
    | nil =>
      intro p q k h hq hk hb
      have e : p.length = l0.length := by rw [h]; simp
      rw [e, loop_out (he _ _ (by simp [hq, e]))]
      simp [totw, sumN, mseq]
    | cons b r ih =>
      intro p q k h hq hk hb
      rw [totw_cons] at hb ⊢
      have hi : p.length < l0.length := by rw [h]; simp
      have hn : nth l0 p.length = b := by rw [h]; exact nth_app rfl r
      have hn2 : nth (q ++ b :: r) p.length = b := by rw [← hq]; exact nth_app rfl r
      have := hs p.length k (q ++ b :: r) hi (by rw [h]; simp [hq]) (by rw [hn, hn2]) hk (by rw [hn]; omega)
      rw [loop_on this, hn]
      have e1 : (q ++ b :: r).set p.length (f k b) = (q ++ [f k b]) ++ r := by
        rw [← hq, List.set_append_right _ _ (by omega)]; simp
      have e2 : ((p.length + 1 : Nat) : Int) = ((p ++ [b]).length : Int) := by simp
      rw [e1, e2, ih (p ++ [b]) (q ++ [f k b]) (k + wd b) (by rw [h]; simp) (by simp [hq]) (by omega) (by omega)]
      simp only [mseq, List.append_assoc, List.singleton_append]
      congr 2
      omega
  have := key l0 [] [] k0 rfl rfl hk hb
  simpa using this
theorem heldseq_loop [Inhabited β] {step : γ → Option (γ ⊕ (Unit ⊕ τ))} (mk : Int → Int → γ) (wd : β → Nat) (f : Int → β → β) (l0 : List β) (B : Int) (late : Int → τ) (k0 : Int)
    (hs : ∀ (i : Nat) (k : Int), i < l0.length → nth (mseq f wd l0 k0) i = f k (nth l0 i) → 0 ≤ k → k + wd (nth l0 i) ≤ B → step (mk i k) = some (.inl (mk (i + 1 : Nat) (k + wd (nth l0 i)))))
    (he : ∀ k, step (mk l0.length k) = some (.inr (.inr (late k)))) (hk : 0 ≤ k0) (hb : k0 + totw wd l0 ≤ B) :
    loopF step (mk 0 k0) = some (.inr (late (k0 + totw wd l0))) := by
  have key : ∀ (r p q : List β) (k : Int), l0 = p ++ r → mseq f wd l0 k0 = q ++ mseq f wd r k → q.length = p.length → 0 ≤ k → k + totw wd r ≤ B → loopF step (mk p.length k) = some (.inr (late (k + totw wd r))) := by
    intro r
    induction r with
    | nil =>
      intro p q k h hm hq hk hb
      have e : p.length = l0.length := by rw [h]; simp
      rw [e, loop_out (he _)]
      simp [totw, sumN]
    | cons b r ih =>
      intro p q k h hm hq hk hb
      rw [totw_cons] at hb ⊢
      have hi : p.length < l0.length := by rw [h]; simp
      have hn : nth l0 p.length = b := by rw [h]; exact nth_app rfl r
      have hn2 : nth (mseq f wd l0 k0) p.length = f k b := by rw [hm, ← hq]; exact nth_app rfl _
      have := hs p.length k hi (by rw [hn, hn2]) hk (by rw [hn]; omega)
      rw [loop_on this, hn]
      have e2 : ((p.length + 1 : Nat) : Int) = ((p ++ [b]).length : Int) := by simp
      rw [e2, ih (p ++ [b]) (q ++ [f k b]) (k + wd b) (by rw [h]; simp) (by rw [hm]; simp [mseq]) (by simp [hq]) (by omega) (by omega)]
      congr 3
      omega
  have := key l0 [] [] k0 rfl rfl rfl hk hb
  simpa using this
end
theorem held_EventS_eq (n : Nat) (k : Int) (hk : 0 ≤ k) (hl : n ≤ 1099511627776) (hb : k + ((4 * n : Nat) : Int) ≤ 1152921504606846976) :
    laws_heldEventS (marks mEvent 4 k n) k = some (k + ((4 * n : Nat) : Int)) := by
  unfold laws_heldEventS
  have key := held_loop (step := laws_heldEventS_L1 (marks mEvent 4 k n)) (fun i k => (⟨k, i⟩ : laws_heldEventS_G1)) 4 mEvent n 1152921504606846976 (fun k => (⟨k⟩ : laws_heldEventS_P1_1)) k (fun i k' hi hn h0 h1 => ?_) (fun k' => ?_) hk hb
  · rw [key]; rfl
  · unfold laws_heldEventS_L1
    have e1 : wI (k' + 1) = k' + 1 := wI_id (by omega)
    have e2 : wI (k' + 1 + 1) = k' + 2 := by rw [wI_id (by omega)]; omega
    have e3 : wI (k' + 2 + 1) = k' + 3 := by rw [wI_id (by omega)]; omega
    have e4 : wI (k' + 3 + 1) = k' + 4 := by rw [wI_id (by omega)]; omega
    have e5 : wI ((i : Int) + 1) = ((i + 1 : Nat) : Int) := by rw [wI_id (by omega)]; omega
    simp only [e1, e2, e3, e4, e5]
    rw [if_pos (by simp [marks_length]; omega), markText_eq (k' + 3) (by omega) (by omega)]
    simp (disch := simp only [marks_length]; omega) only [Option.bind_some, guard_pos, Int.toNat_natCast]
    rw [if_neg (by simp [hn, mEvent]), if_neg (by simp [hn, mEvent]), if_neg (by simp [hn, mEvent]), if_neg (by simp [hn, mEvent])]
    rfl
  · unfold laws_heldEventS_L1
    rw [if_neg (by simp [marks_length])]
/-- A branch, marked. -/
noncomputable def mBranch (k : Int) (b : BranchT) : BranchT := ⟨marks mEvent 4 k b.Events.length⟩
def wBranch (b : BranchT) : Nat := 4 * b.Events.length
noncomputable abbrev mBrs (l : List BranchT) (k : Int) : List BranchT := mseq mBranch wBranch l k
abbrev nBrs (l : List BranchT) : Nat := totw wBranch l
theorem mark_BranchS_eq (l : List BranchT) (k : Int) (hk : 0 ≤ k) (hl : l.length ≤ 1099511627776) (hb : k + nBrs l ≤ 1099511627776) :
    laws_markBranchS_wd l k = some (k + nBrs l, mBrs l k) := by
  unfold laws_markBranchS_wd
  have key := markseq_loop (step := laws_markBranchS_wd_L1) (fun i k l => (⟨k, i, l⟩ : laws_markBranchS_wd_G1)) wBranch mBranch l 1099511627776 (fun k l => (⟨k, l⟩ : laws_markBranchS_wd_P1_0)) (fun i k l' hi hl' hn h0 h1 => ?_) (fun k l' hl' => ?_) k hk hb
  · rw [key]; rfl
  · unfold laws_markBranchS_wd_L1
    unfold wBranch at h1 ⊢
    dsimp only
    rw [if_pos (by simp; omega), guard_pos (by omega), guard_pos (by omega), Int.toNat_natCast, hn, mark_EventS_eq _ _ h0 (by omega) (by omega)]
    simp only [Option.bind_some]
    rw [guard_pos (marks_length ..), wI_id (by omega)]
    rfl
  · unfold laws_markBranchS_wd_L1
    rw [if_neg (by simp; omega)]
theorem held_BranchS_eq (l : List BranchT) (k : Int) (hk : 0 ≤ k) (hl : l.length ≤ 1099511627776) (hb : k + nBrs l ≤ 1099511627776) :
    laws_heldBranchS (mBrs l k) k = some (k + nBrs l) := by
  unfold laws_heldBranchS
  have key := heldseq_loop (step := laws_heldBranchS_L1 (mBrs l k)) (fun i k => (⟨k, i⟩ : laws_heldBranchS_G1)) wBranch mBranch l 1099511627776 (fun k => (⟨k⟩ : laws_heldBranchS_P1_1)) k (fun i k' hi hn h0 h1 => ?_) (fun k' => ?_) hk hb
  · rw [key]; rfl
  · unfold laws_heldBranchS_L1
    unfold wBranch at h1 ⊢
    dsimp only
    rw [if_pos (by simp [mseq_len]; omega), guard_pos (by simp [mseq_len]; omega), Int.toNat_natCast, hn]
    unfold mBranch
    dsimp only
    rw [held_EventS_eq _ _ h0 (by omega) (by omega)]
    simp only [Option.bind_some]
    rw [if_neg (by simp; omega), wI_id (by omega)]
    rfl
  · unfold laws_heldBranchS_L1
    rw [if_neg (by simp [mseq_len])]
theorem mark_Tellings_eq (t : TellingsT) (k : Int) (hk : 0 ≤ k) (hl : t.Branches.length ≤ 1099511627776) (hb : k + nBrs t.Branches ≤ 1099511627776) :
    laws_markTellings_wd t k = some (k + nBrs t.Branches, mBrs t.Branches k) := by
  unfold laws_markTellings_wd
  rw [mark_BranchS_eq _ _ hk hl hb]
  simp only [Option.bind_some]
  rw [guard_pos (mseq_len ..)]
theorem held_Tellings_eq (l : List BranchT) (k : Int) (hk : 0 ≤ k) (hl : l.length ≤ 1099511627776) (hb : k + nBrs l ≤ 1099511627776) :
    laws_heldTellings ⟨mBrs l k⟩ k = some (k + nBrs l) := by
  unfold laws_heldTellings
  dsimp only
  rw [held_BranchS_eq _ _ hk hl hb]
  simp only [Option.bind_some]
  rw [if_neg (by simp; omega)]
theorem mark_Region_eq (r : RegionT) (k : Int) (hk : 0 ≤ k) (hl : r.Tellings.Branches.length ≤ 1099511627776) (hb : k + nBrs r.Tellings.Branches ≤ 1099511627776) :
    laws_markRegion_wd r k = some (k + nBrs r.Tellings.Branches, mBrs r.Tellings.Branches k) := by
  unfold laws_markRegion_wd
  rw [mark_Tellings_eq _ _ hk hl hb]
  simp only [Option.bind_some]
  rw [guard_pos (mseq_len ..)]
theorem mark_Word_eq (r : WordT) (k : Int) (hk : 0 ≤ k) (hl : r.Tellings.Branches.length ≤ 1099511627776) (hb : k + nBrs r.Tellings.Branches ≤ 1099511627776) :
    laws_markWord_wd r k = some (k + nBrs r.Tellings.Branches, mBrs r.Tellings.Branches k) := by
  unfold laws_markWord_wd
  rw [mark_Tellings_eq _ _ hk hl hb]
  simp only [Option.bind_some]
  rw [guard_pos (mseq_len ..)]
theorem held_Word_eq (v : Int) (l : List BranchT) (k : Int) (hk : 0 ≤ k) (hl : l.length ≤ 1099511627776) (hb : k + nBrs l ≤ 1099511627776) :
    laws_heldWord ⟨v, ⟨mBrs l k⟩⟩ k = some (k + nBrs l) := by
  unfold laws_heldWord
  dsimp only
  rw [held_Tellings_eq _ _ hk hl hb]
  simp only [Option.bind_some]
  rw [if_neg (by simp; omega)]
end Go.TL
set_option linter.unusedVariables false
set_option linter.unusedSimpArgs false
set_option maxRecDepth 4000
namespace Go.TL
def ok_Region (x : RegionT) : Prop := ok_I x.Id ∧ ok_I x.Version ∧ ok_Tellings x.Tellings
def siz_Region (x : RegionT) : Nat := siz_I x.Id + siz_I x.Version + siz_Tellings x.Tellings
def lk_Region (x : RegionT) : Prop := lk_I x.Id ∧ lk_I x.Version ∧ lk_Tellings x.Tellings
theorem lk_of_Region {x : RegionT} (h : ok_Region x) : lk_Region x := ⟨lk_of_I h.1, lk_of_I h.2.1, lk_of_Tellings h.2.2⟩
theorem laws_szRegion_eq (a : RegionT) (n : Int) (ha : ok_Region a) (h0 : 0 ≤ n) (h1 : n ≤ 4611686018427387904) : laws_szRegion a n = some (szr (siz_Region a) n) := by
  unfold laws_szRegion
  unfold ok_Region at ha
  unfold siz_Region
  have z_Id : siz_I a.Id = 0 := siz0_I _
  rw [z_Id]
  have z_Version : siz_I a.Version = 0 := siz0_I _
  rw [z_Version]
  rw [laws_szTellings_eq _ _ (ha.2.2) (by omega) (by omega)]
  simp only [Option.bind_some]
  by_cases c0 : (siz_Tellings a.Tellings : Int) ≤ n
  rotate_left
  · have e : szr (siz_Tellings a.Tellings) n = -1 := by unfold szr; rw [if_neg c0]
    rw [e, if_pos (by decide)]; unfold szr; rw [if_neg (by omega)]
  have e0 : szr (siz_Tellings a.Tellings) n = n - (siz_Tellings a.Tellings : Int) := by unfold szr; rw [if_pos c0]
  rw [e0, if_neg (by simp; omega)]
  unfold szr; rw [if_pos (by omega)]
  congr 1; omega
theorem laws_toRegion_eq (a : RegionT) (ha : siz_Region a ≤ 4194304) : laws_toRegion a = some a := by
  unfold siz_Region at ha
  unfold laws_toRegion
  rw [laws_toTellings_eq _ (by omega)]
  simp only [Option.bind_some]
  all_goals rfl
theorem laws_eqRegion_eq (a b : RegionT) (ha : lk_Region a) : laws_eqRegion a b = some (decide (a = b)) := by
  unfold lk_Region at ha
  unfold laws_eqRegion
  rw [laws_eqTellings_eq _ _ (ha.2.2)]
  obtain ⟨x0, x1, x2⟩ := a
  obtain ⟨y0, y1, y2⟩ := b
  simp only [sEq, Option.bind_some, RegionT.mk.injEq]
  by_cases h0 : x0 = y0
  rotate_left
  · simp [h0]
  by_cases h1 : x1 = y1
  rotate_left
  · simp [h1]
  by_cases h2 : x2 = y2
  rotate_left
  · simp [h2]
  simp [h0, h1, h2]
def lk_Word (x : WordT) : Prop := lk_I x.Version ∧ lk_Tellings x.Tellings
theorem laws_eqWord_eq (a b : WordT) (ha : lk_Word a) : laws_eqWord a b = some (decide (a = b)) := by
  unfold lk_Word at ha
  unfold laws_eqWord
  rw [laws_eqTellings_eq _ _ (ha.2)]
  obtain ⟨x0, x1⟩ := a
  obtain ⟨y0, y1⟩ := b
  simp only [sEq, Option.bind_some, WordT.mk.injEq]
  by_cases h0 : x0 = y0
  rotate_left
  · simp [h0]
  by_cases h1 : x1 = y1
  rotate_left
  · simp [h1]
  simp [h0, h1]
end Go.TL
set_option linter.unusedVariables false
set_option linter.unusedSimpArgs false
namespace Go.TL

/-- No event is of a greater version. -/
def oldE (v : Int) (l : List EventT) : Bool := l.all fun e => !decide (e.Version > v)
def oldT (v : Int) (t : TellingsT) : Bool := t.Branches.all fun b => oldE v b.Events
def wordP (v : Int) (t : TellingsT) : Bool := verP v && goodT t && oldT v t
def goodR (r : RegionT) : Bool := decide (0 ≤ r.Id ∧ r.Id ≤ 9) && wordP r.Version r.Tellings
theorem spec_GoodRegion_eq (r : RegionT) (hr : ok_Region r) : spec_GoodRegion r = some (goodR r) := by
  have ht : ok_Tellings r.Tellings := hr.2.2
  have h1 : r.Tellings.Branches.length ≤ 9223372036854775807 := ht.1
  unfold spec_GoodRegion spec_l13Version goodR wordP
  simp only [spec_l1In_eq, spec_GoodTellings_eq _ ht, Option.bind_some]
  have key := all_loop (step := spec_GoodRegion_L1 r) (fun i => (⟨i⟩ : spec_GoodRegion_G1)) r.Tellings.Branches.length (fun i => oldE r.Version (nth r.Tellings.Branches i).Events) (.inr () : Unit ⊕ Unit) (.inl ()) (fun i hi hv => ?_) (fun _ => ?_)
  · rw [key, allN_nth r.Tellings.Branches fun b => oldE r.Version b.Events]
    unfold oldT verP
    cases decide (0 ≤ r.Id ∧ r.Id ≤ 9) <;> cases decide (0 ≤ r.Version ∧ r.Version ≤ 1000000) <;> cases goodT r.Tellings <;> cases (r.Tellings.Branches.all fun b => oldE r.Version b.Events) <;> simp
  · have h2 : ok_LEvent (nth r.Tellings.Branches i).Events := ht.2 _ (nth_mem hi)
    have h3 := h2.1
    unfold spec_GoodRegion_L1
    dsimp only
    rw [if_pos (by rw [decide_eq_true_eq]; omega), guard_pos (by omega)]
    have e1 : wI ((i : Int) + 1) = ((i + 1 : Nat) : Int) := by rw [wI_id (by omega)]; omega
    rw [e1]
    have key2 := all_loop (step := spec_GoodRegion_L2 r (⟨(i : Int)⟩ : spec_GoodRegion_G1)) (fun k => (⟨k⟩ : spec_GoodRegion_G2)) (nth r.Tellings.Branches i).Events.length (fun k => !decide ((nth (nth r.Tellings.Branches i).Events k).Version > r.Version)) (.inr () : Unit ⊕ Unit) (.inl ()) (fun k hk _ => ?_) (fun _ => ?_)
    · rw [key2, allN_nth (nth r.Tellings.Branches i).Events fun e => !decide (e.Version > r.Version)]
      unfold oldE
      split <;> rfl
    · unfold spec_GoodRegion_L2
      simp only [Int.toNat_natCast]
      have e2 : wI ((k : Int) + 1) = ((k + 1 : Nat) : Int) := by rw [wI_id (by omega)]; omega
      rw [if_pos (by rw [decide_eq_true_eq]; omega), guard_pos (by omega), e2]
      cases decide ((nth (nth r.Tellings.Branches i).Events k).Version > r.Version) <;> rfl
    · unfold spec_GoodRegion_L2
      simp only [Int.toNat_natCast]
      rw [if_neg (by rw [decide_eq_true_eq]; omega)]
  · unfold spec_GoodRegion_L1
    dsimp only
    rw [if_neg (by rw [decide_eq_true_eq]; omega)]
theorem impl_old_eq (l : List EventT) (v : Int) (hl : l.length ≤ 9223372036854775807) : slices_ContainsFunc_impl_Event_impl_wordOk_c1_c1r l v = some (!oldE v l) := by
  unfold slices_ContainsFunc_impl_Event_impl_wordOk_c1_c1r slices_IndexFunc_impl_Event_impl_wordOk_c1_c1r
  have key := find_loop (step := slices_IndexFunc_impl_Event_impl_wordOk_c1_c1r_L1 l v) (fun i => (⟨i⟩ : slices_IndexFunc_impl_Event_impl_wordOk_c1_c1r_G1)) l.length (fun i => decide ((nth l i).Version > v))
    (fun i => (.inl ⟨i⟩ : slices_IndexFunc_impl_Event_impl_wordOk_c1_c1r_P1_0 ⊕ Unit)) (.inr ()) (fun i hi hv => ?_) ?_
  · rw [key]
    have e := findN_any l fun e => decide (e.Version > v)
    have e2 : (!oldE v l) = (l.any fun e => decide (e.Version > v)) := by
      unfold oldE
      rw [Bool.eq_iff_iff]; simp
    rw [e2, ← e]
    cases findN (fun i => decide ((nth l i).Version > v)) l.length with
    | none => rfl
    | some i => simp
  · unfold slices_IndexFunc_impl_Event_impl_wordOk_c1_c1r_L1 impl_wordOk_c1_c1_r
    dsimp only
    have e1 : wI ((i : Int) + 1) = ((i + 1 : Nat) : Int) := by rw [wI_id (by omega)]; omega
    rw [if_pos (by rw [decide_eq_true_eq]; omega), guard_pos (by omega), e1]
    simp only [Option.bind_some, Int.toNat_natCast]
    cases decide ((nth l i).Version > v) <;> rfl
  · unfold slices_IndexFunc_impl_Event_impl_wordOk_c1_c1r_L1
    dsimp only
    rw [if_neg (by rw [decide_eq_true_eq]; omega)]
theorem impl_oldT_eq (t : TellingsT) (v : Int) (ht : ok_Tellings t) : slices_ContainsFunc_impl_Branch_impl_wordOk_c1r t.Branches v = some (!oldT v t) := by
  have h1 : t.Branches.length ≤ 9223372036854775807 := ht.1
  unfold slices_ContainsFunc_impl_Branch_impl_wordOk_c1r slices_IndexFunc_impl_Branch_impl_wordOk_c1r
  have key := find_loop (step := slices_IndexFunc_impl_Branch_impl_wordOk_c1r_L1 t.Branches v) (fun i => (⟨i⟩ : slices_IndexFunc_impl_Branch_impl_wordOk_c1r_G1)) t.Branches.length (fun i => !oldE v (nth t.Branches i).Events)
    (fun i => (.inl ⟨i⟩ : slices_IndexFunc_impl_Branch_impl_wordOk_c1r_P1_0 ⊕ Unit)) (.inr ()) (fun i hi hv => ?_) ?_
  · rw [key]
    have e := findN_any t.Branches fun b => !oldE v b.Events
    have e2 : (!oldT v t) = (t.Branches.any fun b => !oldE v b.Events) := by
      unfold oldT
      rw [Bool.eq_iff_iff]; simp
    rw [e2, ← e]
    cases findN (fun i => !oldE v (nth t.Branches i).Events) t.Branches.length with
    | none => rfl
    | some i => simp
  · unfold slices_IndexFunc_impl_Branch_impl_wordOk_c1r_L1 impl_wordOk_c1_r
    dsimp only
    have e1 : wI ((i : Int) + 1) = ((i + 1 : Nat) : Int) := by rw [wI_id (by omega)]; omega
    rw [if_pos (by rw [decide_eq_true_eq]; omega), guard_pos (by omega), e1, Int.toNat_natCast, impl_old_eq _ _ (ht.2 _ (nth_mem hi)).1]
    simp only [Option.bind_some]
    cases oldE v (nth t.Branches i).Events <;> rfl
  · unfold slices_IndexFunc_impl_Branch_impl_wordOk_c1r_L1
    dsimp only
    rw [if_neg (by rw [decide_eq_true_eq]; omega)]
theorem impl_wordOk_eq (v : Int) (t : TellingsT) (ht : ok_Tellings t) : impl_wordOk v t = some (wordP v t) := by
  unfold impl_wordOk impl_isVersion wordP verP
  simp only [impl_in_eq, impl_GoodTellings_eq _ ht, impl_oldT_eq _ _ ht, Option.bind_some]
  cases decide (0 ≤ v ∧ v ≤ 1000000) <;> cases goodT t <;> simp
theorem impl_GoodRegion_eq (r : RegionT) (hr : ok_Region r) : impl_GoodRegion r = some (goodR r) := by
  unfold impl_GoodRegion impl_isRegion goodR
  simp only [impl_in_eq, impl_wordOk_eq _ _ hr.2.2, Option.bind_some]
  cases decide (0 ≤ r.Id ∧ r.Id ≤ 9) <;> simp
theorem goodR_tell {r : RegionT} (h : goodR r = true) : goodT r.Tellings = true := by
  unfold goodR wordP at h
  simp only [Bool.and_eq_true] at h
  exact h.2.1.2
end Go.TL
set_option linter.unusedVariables false
set_option linter.unusedSimpArgs false
set_option maxRecDepth 4000
namespace Go.TL
def smallT (t : TellingsT) : Prop := t.Branches.length ≤ 12 ∧ ∀ i, i < t.Branches.length → (nth t.Branches i).Events.length ≤ 60
theorem goodT_small {t : TellingsT} (h : goodT t = true) : smallT t := ⟨goodT_len h, fun i hi => hist_len (tell_hist (goodT_tell h hi))⟩
theorem take_snoc {α : Type} [Inhabited α] {l : List α} {i : Nat} (h : i < l.length) : l.take i ++ [nth l i] = l.take (i + 1) := by
  rw [nth_eq h]; simp
theorem set_nth {α : Type} [Inhabited α] {l : List α} {i : Nat} (h : i < l.length) : l.set i (nth l i) = l := by
  rw [nth_eq h]; simp
theorem nBrs_size (l : List BranchT) : nBrs l ≤ 4 * sumN (l.map siz_Branch) := by
  induction l with
  | nil => simp [nBrs, totw, sumN]
  | cons b r ih =>
    have h : wBranch b ≤ 4 * siz_Branch b := by unfold wBranch siz_Branch siz_LEvent; omega
    unfold nBrs at ih ⊢
    rw [totw_cons]
    simp only [List.map_cons, sumN]
    omega
theorem tell_size {t : TellingsT} {n : Nat} (h : siz_Tellings t ≤ n) : t.Branches.length ≤ n ∧ nBrs t.Branches ≤ 4 * n := by
  have := nBrs_size t.Branches
  unfold siz_Tellings siz_LBranch at h
  omega
theorem spec_l15Own_wd_eq (t : TellingsT) (h : smallT t) : spec_l15Own_wd t = some (t, t.Branches) := by
  unfold spec_l15Own_wd
  have key : ∀ (m i : Nat), i + m = t.Branches.length → loopF (spec_l15Own_wd_L1 t) ⟨(i : Int), t.Branches, t.Branches.take i⟩ = some ⟨t.Branches, t.Branches⟩ := by
    intro m
    induction m with
    | zero =>
      intro i hi
      have e : i = t.Branches.length := by omega
      apply loop_out
      unfold spec_l15Own_wd_L1
      dsimp only
      rw [if_neg (by simp; omega), e, List.take_length]
    | succ m ih =>
      intro i hi
      have hl := h.1
      have hs : spec_l15Own_wd_L1 t ⟨(i : Int), t.Branches, t.Branches.take i⟩ = some (.inl ⟨((i + 1 : Nat) : Int), t.Branches, t.Branches.take (i + 1)⟩) := by
        have he := h.2 i (by omega)
        have ht : (t.Branches.take i).length = i := by rw [List.length_take]; omega
        have e1 : wI ((i : Int) + 1) = ((i + 1 : Nat) : Int) := by rw [wI_id (by omega)]; omega
        unfold spec_l15Own_wd_L1 spec_l15OwnEvents_w_F
        dsimp only
        rw [if_pos (by rw [decide_eq_true_eq]; omega), guard_pos (by omega), guard_pos (by omega), Int.toNat_natCast, guard_pos (by omega)]
        simp only [Option.bind_some, List.nil_append]
        rw [guard_pos (by rw [ht]; omega), e1, set_nth (by omega)]
        have e2 : (⟨(nth t.Branches i).Events⟩ : BranchT) = nth t.Branches i := rfl
        rw [e2, take_snoc (by omega)]
      rw [loop_on hs]
      exact ih (i + 1) (by omega)
  have := key t.Branches.length 0 (by omega)
  simp only [List.take_zero] at this
  have e0 : ((0 : Nat) : Int) = 0 := rfl
  rw [e0] at this
  rw [this]
  rfl
theorem impl_cloneTellings_eq (t : TellingsT) (h : smallT t) : impl_cloneTellings t = some t := by
  unfold impl_cloneTellings
  have key : ∀ (m i : Nat), i + m = t.Branches.length → loopF (impl_cloneTellings_L1 t) ⟨(i : Int), t.Branches.take i⟩ = some ⟨t.Branches⟩ := by
    intro m
    induction m with
    | zero =>
      intro i hi
      have e : i = t.Branches.length := by omega
      apply loop_out
      unfold impl_cloneTellings_L1
      dsimp only
      rw [if_neg (by simp; omega), e, List.take_length]
    | succ m ih =>
      intro i hi
      have hl := h.1
      have hs : impl_cloneTellings_L1 t ⟨(i : Int), t.Branches.take i⟩ = some (.inl ⟨((i + 1 : Nat) : Int), t.Branches.take (i + 1)⟩) := by
        have he := h.2 i (by omega)
        have ht : (t.Branches.take i).length = i := by rw [List.length_take]; omega
        have e1 : wI ((i : Int) + 1) = ((i + 1 : Nat) : Int) := by rw [wI_id (by omega)]; omega
        unfold impl_cloneTellings_L1 slices_Clone_impl_Event
        dsimp only
        rw [if_pos (by rw [decide_eq_true_eq]; omega), guard_pos (by omega), Int.toNat_natCast, guard_pos (by omega)]
        simp only [Option.bind_some]
        rw [guard_pos (by rw [ht]; omega), e1]
        have e2 : (⟨(nth t.Branches i).Events⟩ : BranchT) = nth t.Branches i := rfl
        rw [e2, take_snoc (by omega)]
      rw [loop_on hs]
      exact ih (i + 1) (by omega)
  have := key t.Branches.length 0 (by omega)
  simp only [List.take_zero] at this
  have e0 : ((0 : Nat) : Int) = 0 := rfl
  rw [e0] at this
  rw [this]
  rfl
def wordD (r : RegionT) : WordT × Bool := if goodR r = true then (⟨r.Version, r.Tellings⟩, true) else (⟨0, ⟨[]⟩⟩, false)
theorem spec_WordOf_eq (r : RegionT) (hr : ok_Region r) : spec_WordOf_wd r = some ((wordD r).1, (wordD r).2, r.Tellings.Branches) := by
  unfold spec_WordOf_wd wordD
  rw [spec_GoodRegion_eq _ hr]
  simp only [Option.bind_some]
  cases hg : goodR r
  · simp
  rw [if_neg (by simp), if_pos rfl, spec_l15Own_wd_eq _ (goodT_small (goodR_tell hg))]
  simp only [Option.bind_some]
  rw [guard_pos trivial]
theorem impl_WordOf_eq (r : RegionT) (hr : ok_Region r) : impl_WordOf r = some (wordD r) := by
  unfold impl_WordOf wordD impl_Region_word_r
  rw [impl_GoodRegion_eq _ hr]
  simp only [Option.bind_some]
  cases hg : goodR r
  · simp
  rw [if_neg (by simp), if_pos rfl, impl_cloneTellings_eq _ (goodT_small (goodR_tell hg))]
  rfl
theorem lk_nil : lk_Tellings ⟨[]⟩ := by unfold lk_Tellings lk_LBranch; simp
theorem nBrs_nil : nBrs [] = 0 := rfl
theorem wordD_lk {r : RegionT} (hr : ok_Region r) : lk_Word (wordD r).1 := by
  unfold wordD
  split
  · exact ⟨trivial, lk_of_Tellings hr.2.2⟩
  · exact ⟨trivial, lk_nil⟩
theorem wordD_size {r : RegionT} {n : Nat} (h : siz_Tellings r.Tellings ≤ n) : (wordD r).1.Tellings.Branches.length ≤ n ∧ nBrs (wordD r).1.Tellings.Branches ≤ 4 * n := by
  unfold wordD
  split
  · exact tell_size h
  · simp [nBrs_nil]
theorem word_holds (r : RegionT) (hr : ok_Region r) : laws_FnExactWordOf r = some true := by
  unfold laws_FnExactWordOf
  rw [laws_szRegion_eq _ _ hr (by omega) (by omega)]
  simp only [Option.bind_some]
  by_cases h : (siz_Region r : Int) ≤ 1048576
  rotate_left
  · rw [if_pos (decide_eq_true (szr_no h))]
  have hz : siz_Tellings r.Tellings ≤ 1048576 := by unfold siz_Region at h; omega
  obtain ⟨z1, z2⟩ := tell_size hz
  obtain ⟨z3, z4⟩ := wordD_size hz
  rw [if_neg (by simpa using szr_ok h), laws_toRegion_eq _ (by omega)]
  simp only [Option.bind_some]
  rw [spec_WordOf_eq _ hr, impl_WordOf_eq _ hr]
  simp only [Option.bind_some]
  rw [guard_pos trivial, laws_eqWord_eq _ _ (wordD_lk hr), laws_eqRegion_eq _ _ (lk_of_Region hr)]
  simp only [Option.bind_some, decide_true, Bool.not_true, beq_self_eq_true, Bool.false_eq_true, if_false]
  rw [mark_Region_eq r 1 (by omega) (by omega) (by omega), mark_Word_eq _ 1 (by omega) (by omega) (by omega)]
  simp only [Option.bind_some]
  rw [guard_pos (mseq_len ..), if_neg (by simp; omega)]
  simp only [Option.bind_some, Bool.false_eq_true, if_false]
  rw [guard_pos (mseq_len ..), held_Word_eq _ _ 1 (by omega) (by omega) (by omega)]
  simp only [Option.bind_some]
  rw [if_neg (by simp; omega), if_neg (by simp), if_neg (by simp; omega), if_neg (by simp)]
end Go.TL

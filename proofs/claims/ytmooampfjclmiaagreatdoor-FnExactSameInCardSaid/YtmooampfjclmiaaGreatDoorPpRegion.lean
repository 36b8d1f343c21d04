import Derived.Test.YtmooampfjclmiaaGreatDoorPpR4Z
set_option linter.unusedSimpArgs false
set_option linter.unusedVariables false
set_option linter.unusedVariables false
set_option linter.unusedSimpArgs false
namespace Go.TL

/-- No event is of a greater version. -/
def oldE (v : Int) (l : List EventT) : Bool := l.all fun e => !decide (e.Version > v)
def oldT (v : Int) (t : TellingsT) : Bool := t.Branches.all fun b => oldE v b.Events
def wordP (v : Int) (t : TellingsT) : Bool := verP v && goodT t && oldT v t
def goodR (r : RegionT) : Bool := decide (0 ≤ r.Id ∧ r.Id ≤ 9) && wordP r.Version r.Tellings
theorem spec_GoodRegion_eq (r : RegionT) (hr : ok_Region r) : spec_GoodRegion r = some (goodR r) := by
  have ht : ok_Tellings r.Tellings := hr.2.2
  have h1 : r.Tellings.Branches.length ≤ 9223372036854775807 := ht.1
  unfold spec_GoodRegion spec_l13Version goodR wordP
  simp only [spec_l1In_eq, spec_GoodTellings_eq _ ht, Option.bind_some]
  have key := all_loop (step := spec_GoodRegion_L1 r) (fun i => (⟨i⟩ : spec_GoodRegion_G1)) r.Tellings.Branches.length (fun i => oldE r.Version (nth r.Tellings.Branches i).Events) (.inr () : Unit ⊕ Unit) (.inl ()) (fun i hi hv => ?_) (fun _ => ?_)
  · rw [key, allN_nth r.Tellings.Branches fun b => oldE r.Version b.Events]
    unfold oldT verP
    cases decide (0 ≤ r.Id ∧ r.Id ≤ 9) <;> cases decide (0 ≤ r.Version ∧ r.Version ≤ 1000000) <;> cases goodT r.Tellings <;> cases (r.Tellings.Branches.all fun b => oldE r.Version b.Events) <;> simp
  · have h2 : ok_LEvent (nth r.Tellings.Branches i).Events := ht.2 _ (nth_mem hi)
    have h3 := h2.1
    unfold spec_GoodRegion_L1
    dsimp only
    rw [if_pos (by rw [decide_eq_true_eq]; omega), guard_pos (by omega)]
    have e1 : wI ((i : Int) + 1) = ((i + 1 : Nat) : Int) := by rw [wI_id (by omega)]; omega
    rw [e1]
    have key2 := all_loop (step := spec_GoodRegion_L2 r (⟨(i : Int)⟩ : spec_GoodRegion_G1)) (fun k => (⟨k⟩ : spec_GoodRegion_G2)) (nth r.Tellings.Branches i).Events.length (fun k => !decide ((nth (nth r.Tellings.Branches i).Events k).Version > r.Version)) (.inr () : Unit ⊕ Unit) (.inl ()) (fun k hk _ => ?_) (fun _ => ?_)
    · rw [key2, allN_nth (nth r.Tellings.Branches i).Events fun e => !decide (e.Version > r.Version)]
      unfold oldE
      split <;> rfl
    · unfold spec_GoodRegion_L2
      simp only [Int.toNat_natCast]
      have e2 : wI ((k : Int) + 1) = ((k + 1 : Nat) : Int) := by rw [wI_id (by omega)]; omega
      rw [if_pos (by rw [decide_eq_true_eq]; omega), guard_pos (by omega), e2]
      cases decide ((nth (nth r.Tellings.Branches i).Events k).Version > r.Version) <;> rfl
    · unfold spec_GoodRegion_L2
      simp only [Int.toNat_natCast]
      rw [if_neg (by rw [decide_eq_true_eq]; omega)]
  · unfold spec_GoodRegion_L1
    dsimp only
    rw [if_neg (by rw [decide_eq_true_eq]; omega)]
theorem impl_old_eq (l : List EventT) (v : Int) (hl : l.length ≤ 9223372036854775807) : slices_ContainsFunc_impl_Event_impl_wordOk_c1_c1r l v = some (!oldE v l) := by
  unfold slices_ContainsFunc_impl_Event_impl_wordOk_c1_c1r slices_IndexFunc_impl_Event_impl_wordOk_c1_c1r
  have key := find_loop (step := slices_IndexFunc_impl_Event_impl_wordOk_c1_c1r_L1 l v) (fun i => (⟨i⟩ : slices_IndexFunc_impl_Event_impl_wordOk_c1_c1r_G1)) l.length (fun i => decide ((nth l i).Version > v))
    (fun i => (.inl ⟨i⟩ : slices_IndexFunc_impl_Event_impl_wordOk_c1_c1r_P1_0 ⊕ Unit)) (.inr ()) (fun i hi hv => ?_) ?_
  · rw [key]
    have e := findN_any l fun e => decide (e.Version > v)
    have e2 : (!oldE v l) = (l.any fun e => decide (e.Version > v)) := by
      unfold oldE
      rw [Bool.eq_iff_iff]; simp
    rw [e2, ← e]
    cases findN (fun i => decide ((nth l i).Version > v)) l.length with
    | none => rfl
    | some i => simp
  · unfold slices_IndexFunc_impl_Event_impl_wordOk_c1_c1r_L1 impl_wordOk_c1_c1_r
    dsimp only
    have e1 : wI ((i : Int) + 1) = ((i + 1 : Nat) : Int) := by rw [wI_id (by omega)]; omega
    rw [if_pos (by rw [decide_eq_true_eq]; omega), guard_pos (by omega), e1]
    simp only [Option.bind_some, Int.toNat_natCast]
    cases decide ((nth l i).Version > v) <;> rfl
  · unfold slices_IndexFunc_impl_Event_impl_wordOk_c1_c1r_L1
    dsimp only
    rw [if_neg (by rw [decide_eq_true_eq]; omega)]
theorem impl_oldT_eq (t : TellingsT) (v : Int) (ht : ok_Tellings t) : slices_ContainsFunc_impl_Branch_impl_wordOk_c1r t.Branches v = some (!oldT v t) := by
  have h1 : t.Branches.length ≤ 9223372036854775807 := ht.1
  unfold slices_ContainsFunc_impl_Branch_impl_wordOk_c1r slices_IndexFunc_impl_Branch_impl_wordOk_c1r
  have key := find_loop (step := slices_IndexFunc_impl_Branch_impl_wordOk_c1r_L1 t.Branches v) (fun i => (⟨i⟩ : slices_IndexFunc_impl_Branch_impl_wordOk_c1r_G1)) t.Branches.length (fun i => !oldE v (nth t.Branches i).Events)
    (fun i => (.inl ⟨i⟩ : slices_IndexFunc_impl_Branch_impl_wordOk_c1r_P1_0 ⊕ Unit)) (.inr ()) (fun i hi hv => ?_) ?_
  · rw [key]
    have e := findN_any t.Branches fun b => !oldE v b.Events
    have e2 : (!oldT v t) = (t.Branches.any fun b => !oldE v b.Events) := by
      unfold oldT
      rw [Bool.eq_iff_iff]; simp
    rw [e2, ← e]
    cases findN (fun i => !oldE v (nth t.Branches i).Events) t.Branches.length with
    | none => rfl
    | some i => simp
  · unfold slices_IndexFunc_impl_Branch_impl_wordOk_c1r_L1 impl_wordOk_c1_r
    dsimp only
    have e1 : wI ((i : Int) + 1) = ((i + 1 : Nat) : Int) := by rw [wI_id (by omega)]; omega
    rw [if_pos (by rw [decide_eq_true_eq]; omega), guard_pos (by omega), e1, Int.toNat_natCast, impl_old_eq _ _ (ht.2 _ (nth_mem hi)).1]
    simp only [Option.bind_some]
    cases oldE v (nth t.Branches i).Events <;> rfl
  · unfold slices_IndexFunc_impl_Branch_impl_wordOk_c1r_L1
    dsimp only
    rw [if_neg (by rw [decide_eq_true_eq]; omega)]
theorem impl_wordOk_eq (v : Int) (t : TellingsT) (ht : ok_Tellings t) : impl_wordOk v t = some (wordP v t) := by
  unfold impl_wordOk impl_isVersion wordP verP
  simp only [impl_in_eq, impl_GoodTellings_eq _ ht, impl_oldT_eq _ _ ht, Option.bind_some]
  cases decide (0 ≤ v ∧ v ≤ 1000000) <;> cases goodT t <;> simp
theorem impl_GoodRegion_eq (r : RegionT) (hr : ok_Region r) : impl_GoodRegion r = some (goodR r) := by
  unfold impl_GoodRegion impl_isRegion goodR
  simp only [impl_in_eq, impl_wordOk_eq _ _ hr.2.2, Option.bind_some]
  cases decide (0 ≤ r.Id ∧ r.Id ≤ 9) <;> simp
theorem region_holds (r : RegionT) (hr : ok_Region r) : laws_FnExactGoodRegion r = some true := by
  unfold laws_FnExactGoodRegion
  rw [laws_szRegion_eq _ _ hr (by omega) (by omega)]
  simp only [Option.bind_some]
  by_cases h : (siz_Region r : Int) ≤ 1048576
  rotate_left
  · rw [if_pos (decide_eq_true (szr_no h))]
  rw [if_neg (by simpa using szr_ok h), laws_toRegion_eq _ (by omega)]
  simp only [Option.bind_some]
  rw [spec_GoodRegion_eq _ hr, impl_GoodRegion_eq _ hr, laws_eqRegion_eq _ _ (lk_of_Region hr)]
  simp
def activeP (r : RegionT) : Bool × Bool := if goodR r = true then ((r.Version.tmod 10 == r.Id), true) else (false, false)
theorem active_holds (r : RegionT) (hr : ok_Region r) : laws_FnExactIsActive r = some true := by
  unfold laws_FnExactIsActive
  rw [laws_szRegion_eq _ _ hr (by omega) (by omega)]
  simp only [Option.bind_some]
  by_cases h : (siz_Region r : Int) ≤ 1048576
  rotate_left
  · rw [if_pos (decide_eq_true (szr_no h))]
  rw [if_neg (by simpa using szr_ok h), laws_toRegion_eq _ (by omega)]
  simp only [Option.bind_some]
  have e1 : spec_IsActive r = some (activeP r) := by
    unfold spec_IsActive spec_l16Active activeP
    rw [spec_GoodRegion_eq _ hr]
    simp only [Option.bind_some]
    cases goodR r <;> simp
  have e2 : impl_IsActive r = some (activeP r) := by
    unfold impl_IsActive impl_Region_active_r activeP
    rw [impl_GoodRegion_eq _ hr]
    simp only [Option.bind_some]
    cases goodR r <;> simp
  rw [e1, e2, laws_eqRegion_eq _ _ (lk_of_Region hr)]
  simp

def saidP (s : SaidT) : Bool := decide (0 ≤ s.To ∧ s.To ≤ 1) && wordP s.Word.Version s.Word.Tellings
def goodW (w : WorldT) : Bool := decide (w.Regions.length = 2) && decide (w.Line.length ≤ 20) && allN (fun i => goodR (nth w.Regions i) && decide ((nth w.Regions i).Id = (i : Int))) w.Regions.length && w.Line.all saidP
theorem goodR_zero (v : Int) (t : TellingsT) : goodR ⟨0, v, t⟩ = wordP v t := by
  unfold goodR
  simp
theorem spec_GoodWorld_eq (w : WorldT) (hw : ok_World w) : spec_GoodWorld w = some (goodW w) := by
  have h1 : w.Regions.length ≤ 9223372036854775807 := hw.1.1
  have h2 : w.Line.length ≤ 9223372036854775807 := hw.2.1
  unfold spec_GoodWorld goodW
  have hJ : (if (((w.Regions.length : Nat) : Int) != 2) = true then some (⟨true⟩ : spec_GoodWorld_J4001) else some ⟨(decide (((w.Line.length : Nat) : Int) > 20))⟩) = some ⟨!(decide (w.Regions.length = 2) && decide (w.Line.length ≤ 20))⟩ := by
    by_cases e1 : w.Regions.length = 2
    · rw [if_neg (by rw [e1]; decide), decide_eq_true e1, Bool.true_and]
      congr 2
      rw [Bool.eq_iff_iff, decide_eq_true_eq]; simp; omega
    · rw [if_pos (by rw [bne_iff_ne]; omega), decide_eq_false e1]; rfl
  rw [hJ]
  simp only [Option.bind_some]
  have key := all_loop (step := spec_GoodWorld_L1 w) (fun i => (⟨i⟩ : spec_GoodWorld_G1)) w.Regions.length (fun i => goodR (nth w.Regions i) && decide ((nth w.Regions i).Id = (i : Int))) (.inr () : Unit ⊕ Unit) (.inl ()) (fun i hi hv => ?_) (fun _ => ?_)
  · have key2 := all_loop (step := spec_GoodWorld_L2 w) (fun i => (⟨i⟩ : spec_GoodWorld_G2)) w.Line.length (fun i => saidP (nth w.Line i)) (.inr () : Unit ⊕ Unit) (.inl ()) (fun i hi hv => ?_) (fun _ => ?_)
    · rw [key, key2, allN_nth w.Line saidP]
      cases (decide (w.Regions.length = 2) && decide (w.Line.length ≤ 20))
      · simp
      · cases allN (fun i => goodR (nth w.Regions i) && decide ((nth w.Regions i).Id = (i : Int))) w.Regions.length
        · simp
        · cases w.Line.all saidP <;> simp
    · have hs : ok_Said (nth w.Line i) := hw.2.2 _ (nth_mem hi)
      unfold spec_GoodWorld_L2
      dsimp only
      have e1 : wI ((i : Int) + 1) = ((i + 1 : Nat) : Int) := by rw [wI_id (by omega)]; omega
      have hok : ok_Region ⟨0, (nth w.Line i).Word.Version, (nth w.Line i).Word.Tellings⟩ := ⟨(⟨by decide, by decide⟩ : ok_I 0), hs.2.1, hs.2.2⟩
      rw [if_pos (by rw [decide_eq_true_eq]; omega), guard_pos (by omega), e1, Int.toNat_natCast]
      simp only [spec_l1In_eq, spec_GoodRegion_eq _ hok, Option.bind_some, goodR_zero]
      unfold saidP
      cases decide (0 ≤ (nth w.Line i).To ∧ (nth w.Line i).To ≤ 1) <;> cases wordP (nth w.Line i).Word.Version (nth w.Line i).Word.Tellings <;> simp
    · unfold spec_GoodWorld_L2
      dsimp only
      rw [if_neg (by rw [decide_eq_true_eq]; omega)]
  · have hs : ok_Region (nth w.Regions i) := hw.1.2 _ (nth_mem hi)
    unfold spec_GoodWorld_L1
    dsimp only
    have e1 : wI ((i : Int) + 1) = ((i + 1 : Nat) : Int) := by rw [wI_id (by omega)]; omega
    have e3 : spec_GoodRegion ⟨(nth w.Regions i).Id, (nth w.Regions i).Version, (nth w.Regions i).Tellings⟩ = some (goodR (nth w.Regions i)) := spec_GoodRegion_eq (nth w.Regions i) hs
    rw [if_pos (by rw [decide_eq_true_eq]; omega), guard_pos (by omega), e1, Int.toNat_natCast, e3]
    simp only [Option.bind_some]
    have e4 : ((nth w.Regions i).Id != (i : Int)) = !decide ((nth w.Regions i).Id = (i : Int)) := rfl
    rw [e4]
    cases goodR (nth w.Regions i) <;> cases decide ((nth w.Regions i).Id = (i : Int)) <;> simp
  · unfold spec_GoodWorld_L1
    dsimp only
    rw [if_neg (by rw [decide_eq_true_eq]; omega)]
theorem impl_line_eq (l : List SaidT) (hl : ok_LSaid l) : slices_ContainsFunc_impl_Said_impl_GoodWorld_c1 l = some (!l.all saidP) := by
  have h1 := hl.1
  unfold slices_ContainsFunc_impl_Said_impl_GoodWorld_c1 slices_IndexFunc_impl_Said_impl_GoodWorld_c1
  have key := find_loop (step := slices_IndexFunc_impl_Said_impl_GoodWorld_c1_L1 l) (fun i => (⟨i⟩ : slices_IndexFunc_impl_Said_impl_GoodWorld_c1_G1)) l.length (fun i => !saidP (nth l i))
    (fun i => (.inl ⟨i⟩ : slices_IndexFunc_impl_Said_impl_GoodWorld_c1_P1_0 ⊕ Unit)) (.inr ()) (fun i hi hv => ?_) ?_
  · rw [key]
    have e := findN_any l fun s => !saidP s
    have e2 : (!l.all saidP) = (l.any fun s => !saidP s) := by
      rw [Bool.eq_iff_iff]; simp
    rw [e2, ← e]
    cases findN (fun i => !saidP (nth l i)) l.length with
    | none => rfl
    | some i => simp
  · have hs : ok_Said (nth l i) := hl.2 _ (nth_mem hi)
    unfold slices_IndexFunc_impl_Said_impl_GoodWorld_c1_L1 impl_GoodWorld_c1 impl_isPlace
    dsimp only
    have e1 : wI ((i : Int) + 1) = ((i + 1 : Nat) : Int) := by rw [wI_id (by omega)]; omega
    rw [if_pos (by rw [decide_eq_true_eq]; omega), guard_pos (by omega), e1, Int.toNat_natCast]
    simp only [impl_in_eq, impl_wordOk_eq _ _ hs.2.2, Option.bind_some]
    unfold saidP
    cases decide (0 ≤ (nth l i).To ∧ (nth l i).To ≤ 1) <;> cases wordP (nth l i).Word.Version (nth l i).Word.Tellings <;> simp
  · unfold slices_IndexFunc_impl_Said_impl_GoodWorld_c1_L1
    dsimp only
    rw [if_neg (by rw [decide_eq_true_eq]; omega)]
theorem impl_GoodWorld_eq (w : WorldT) (hw : ok_World w) : impl_GoodWorld w = some (goodW w) := by
  have h1 : w.Regions.length ≤ 9223372036854775807 := hw.1.1
  have h2 : w.Line.length ≤ 9223372036854775807 := hw.2.1
  unfold impl_GoodWorld goodW
  have hJ : (if (((w.Regions.length : Nat) : Int) != 2) = true then some (⟨true⟩ : impl_GoodWorld_J4001) else some ⟨(decide (((w.Line.length : Nat) : Int) > 20))⟩) = some ⟨!(decide (w.Regions.length = 2) && decide (w.Line.length ≤ 20))⟩ := by
    by_cases e1 : w.Regions.length = 2
    · rw [if_neg (by rw [e1]; decide), decide_eq_true e1, Bool.true_and]
      congr 2
      rw [Bool.eq_iff_iff, decide_eq_true_eq]; simp; omega
    · rw [if_pos (by rw [bne_iff_ne]; omega), decide_eq_false e1]; rfl
  rw [hJ]
  simp only [Option.bind_some, impl_line_eq _ hw.2]
  have key := all_loop (step := impl_GoodWorld_L1 w) (fun i => (⟨i⟩ : impl_GoodWorld_G1)) w.Regions.length (fun i => goodR (nth w.Regions i) && decide ((nth w.Regions i).Id = (i : Int))) (.inr () : Unit ⊕ Unit) (.inl ()) (fun i hi hv => ?_) (fun _ => ?_)
  · rw [key]
    cases (decide (w.Regions.length = 2) && decide (w.Line.length ≤ 20))
    · simp
    · cases allN (fun i => goodR (nth w.Regions i) && decide ((nth w.Regions i).Id = (i : Int))) w.Regions.length
      · simp
      · cases w.Line.all saidP <;> simp
  · have hs : ok_Region (nth w.Regions i) := hw.1.2 _ (nth_mem hi)
    unfold impl_GoodWorld_L1
    dsimp only
    have e1 : wI ((i : Int) + 1) = ((i + 1 : Nat) : Int) := by rw [wI_id (by omega)]; omega
    have e3 : impl_GoodRegion ⟨(nth w.Regions i).Id, (nth w.Regions i).Version, (nth w.Regions i).Tellings⟩ = some (goodR (nth w.Regions i)) := impl_GoodRegion_eq (nth w.Regions i) hs
    rw [if_pos (by rw [decide_eq_true_eq]; omega), guard_pos (by omega), e1, Int.toNat_natCast, e3]
    simp only [Option.bind_some]
    have e4 : ((nth w.Regions i).Id != (i : Int)) = !decide ((nth w.Regions i).Id = (i : Int)) := rfl
    rw [e4]
    cases goodR (nth w.Regions i) <;> cases decide ((nth w.Regions i).Id = (i : Int)) <;> simp
  · unfold impl_GoodWorld_L1
    dsimp only
    rw [if_neg (by rw [decide_eq_true_eq]; omega)]
theorem world_holds (w : WorldT) (hw : ok_World w) : laws_FnExactGoodWorld w = some true := by
  unfold laws_FnExactGoodWorld
  rw [laws_szWorld_eq _ _ hw (by omega) (by omega)]
  simp only [Option.bind_some]
  by_cases h : (siz_World w : Int) ≤ 1048576
  rotate_left
  · rw [if_pos (decide_eq_true (szr_no h))]
  rw [if_neg (by simpa using szr_ok h), laws_toWorld_eq _ (by omega)]
  simp only [Option.bind_some]
  rw [spec_GoodWorld_eq _ hw, impl_GoodWorld_eq _ hw, laws_eqWorld_eq _ _ (lk_of_World hw)]
  simp

def sameT (a b : TellingsT) : Bool := decide (a = b)
theorem evs_same {a b : List EventT} (ha : histP a = true) (hb : histP b = true) : (cmpL a b).1 = 0 ↔ a = b := by
  unfold cmpL
  cases hf : firstD a b with
  | some i =>
    obtain ⟨h1, h2, h3⟩ := findN_lt hf
    simp only [ne_eq, decide_not, Bool.not_eq_true', decide_eq_false_iff_not] at h2
    simp only
    constructor
    · intro h; exact absurd h h2
    · intro h; subst h; exact absurd ((evC_zero _ _).2 ⟨rfl, rfl, rfl⟩) h2
  | none =>
    have h1 := findN_no hf
    simp only
    constructor
    · intro h
      have hl : a.length = b.length := by
        split at h
        · simp at h
        · split at h
          · simp at h
          · omega
      refine list_ext hl fun j hj => ?_
      have := h1 j (by omega)
      simp only [ne_eq, decide_not, Bool.not_eq_false', decide_eq_true_eq] at this
      exact (hist_same ha hb hj (by omega)).2 this
    · intro h; subst h; simp
theorem impl_equal_eq (a b : List EventT) (ha : a.length ≤ 9223372036854775807) : slices_Equal_impl_Event a b = some (decide (a = b)) := by
  unfold slices_Equal_impl_Event
  by_cases hl : a.length = b.length
  rotate_left
  · rw [if_pos (by rw [bne_iff_ne]; omega), decide_eq_false fun e => hl (by rw [e])]
  rw [if_neg (by rw [hl]; simp)]
  have key := all_loop (step := slices_Equal_impl_Event_L1 a b) (fun i => (⟨i⟩ : slices_Equal_impl_Event_G1)) a.length (fun i => decide (nth a i = nth b i)) (.inr () : Unit ⊕ Unit) (.inl ()) (fun i hi hv => ?_) (fun _ => ?_)
  · rw [key]
    have e : allN (fun i => decide (nth a i = nth b i)) a.length = decide (a = b) := by
      rw [Bool.eq_iff_iff, allN_iff, decide_eq_true_eq]
      simp only [decide_eq_true_eq]
      exact ⟨fun h => list_ext hl h, fun h => by subst h; exact fun _ _ => rfl⟩
    rw [e]
    cases decide (a = b) <;> rfl
  · unfold slices_Equal_impl_Event_L1
    dsimp only
    have e1 : wI ((i : Int) + 1) = ((i + 1 : Nat) : Int) := by rw [wI_id (by omega)]; omega
    rw [if_pos (by rw [decide_eq_true_eq]; omega), guard_pos (by omega), guard_pos (by omega), Int.toNat_natCast, evEq, e1]
    cases decide (nth a i = nth b i) <;> rfl
  · unfold slices_Equal_impl_Event_L1
    dsimp only
    rw [if_neg (by rw [decide_eq_true_eq]; omega)]
theorem branch_ext {x y : BranchT} : x = y ↔ x.Events = y.Events := by
  cases x; cases y; simp
theorem tell_ext {a b : TellingsT} : a = b ↔ a.Branches = b.Branches := by
  cases a; cases b; simp
theorem all_same (a b : TellingsT) (hl : a.Branches.length = b.Branches.length) : allN (fun i => decide ((nth a.Branches i).Events = (nth b.Branches i).Events)) a.Branches.length = decide (a = b) := by
  rw [Bool.eq_iff_iff, allN_iff, decide_eq_true_eq, tell_ext]
  simp only [decide_eq_true_eq]
  exact ⟨fun h => list_ext hl fun j hj => branch_ext.2 (h j hj), fun h => by rw [h]; exact fun _ _ => rfl⟩
theorem spec_same_eq (a b : TellingsT) (ha : ok_Tellings a) (hb : ok_Tellings b) (ga : goodT a = true) (gb : goodT b = true) : spec_l17SameTellings a b = some (decide (a = b)) := by
  have h1 := goodT_len ga
  unfold spec_l17SameTellings
  by_cases hl : a.Branches.length = b.Branches.length
  rotate_left
  · rw [if_pos (by rw [bne_iff_ne]; omega), decide_eq_false fun e => hl (by rw [e])]
  rw [if_neg (by rw [hl]; simp)]
  have key := all_loop (step := spec_l17SameTellings_L1 a b) (fun i => (⟨i⟩ : spec_l17SameTellings_G1)) a.Branches.length (fun i => decide ((nth a.Branches i).Events = (nth b.Branches i).Events)) (.inr () : Unit ⊕ Unit) (.inl ()) (fun i hi hv => ?_) (fun _ => ?_)
  · rw [key, all_same a b hl]
    cases decide (a = b) <;> rfl
  · unfold spec_l17SameTellings_L1
    dsimp only
    have e1 : wI ((i : Int) + 1) = ((i + 1 : Nat) : Int) := by rw [wI_id (by omega)]; omega
    rw [if_pos (by rw [decide_eq_true_eq]; omega), guard_pos (by omega), guard_pos (by omega), Int.toNat_natCast, spec_l15Compare_eq _ _ (ha.2 _ (nth_mem hi)).1 (hb.2 _ (nth_mem (by omega))).1, e1]
    simp only [Option.bind_some]
    have hs := evs_same (tell_hist (goodT_tell ga hi)) (tell_hist (goodT_tell gb (i := i) (by omega)))
    by_cases h : (nth a.Branches i).Events = (nth b.Branches i).Events
    · rw [if_neg (by rw [bne_iff_ne]; simpa using hs.2 h), if_pos (decide_eq_true h)]
    · rw [if_pos (by rw [bne_iff_ne]; exact fun e => h (hs.1 e)), if_neg (by simpa using h)]
  · unfold spec_l17SameTellings_L1
    dsimp only
    rw [if_neg (by rw [decide_eq_true_eq]; omega)]
theorem impl_same_eq (a b : TellingsT) (ha : ok_Tellings a) (ga : goodT a = true) : impl_sameTellings a b = some (decide (a = b)) := by
  have h1 := goodT_len ga
  unfold impl_sameTellings slices_EqualFunc_impl_Branch_impl_sameTellings_c1
  by_cases hl : a.Branches.length = b.Branches.length
  rotate_left
  · rw [if_pos (by rw [bne_iff_ne]; omega), decide_eq_false fun e => hl (by rw [e])]; rfl
  rw [if_neg (by rw [hl]; simp)]
  have key := all_loop (step := slices_EqualFunc_impl_Branch_impl_sameTellings_c1_L1 a.Branches b.Branches) (fun i => (⟨i⟩ : slices_EqualFunc_impl_Branch_impl_sameTellings_c1_G1)) a.Branches.length (fun i => decide ((nth a.Branches i).Events = (nth b.Branches i).Events)) (.inr () : Unit ⊕ Unit) (.inl ()) (fun i hi hv => ?_) (fun _ => ?_)
  · rw [key, all_same a b hl]
    cases decide (a = b) <;> rfl
  · unfold slices_EqualFunc_impl_Branch_impl_sameTellings_c1_L1 impl_sameTellings_c1
    dsimp only
    have e1 : wI ((i : Int) + 1) = ((i + 1 : Nat) : Int) := by rw [wI_id (by omega)]; omega
    rw [if_pos (by rw [decide_eq_true_eq]; omega), guard_pos (by omega), guard_pos (by omega), Int.toNat_natCast, impl_equal_eq _ _ (ha.2 _ (nth_mem hi)).1, e1]
    simp only [Option.bind_some]
    cases decide ((nth a.Branches i).Events = (nth b.Branches i).Events) <;> rfl
  · unfold slices_EqualFunc_impl_Branch_impl_sameTellings_c1_L1
    dsimp only
    rw [if_neg (by rw [decide_eq_true_eq]; omega)]
theorem goodR_tell {r : RegionT} (h : goodR r = true) : goodT r.Tellings = true := by
  unfold goodR wordP at h
  simp only [Bool.and_eq_true] at h
  exact h.2.1.2
theorem goodW_regions {w : WorldT} (h : goodW w = true) : w.Regions.length = 2 ∧ ∀ i, i < 2 → goodR (nth w.Regions i) = true := by
  unfold goodW at h
  simp only [Bool.and_eq_true, decide_eq_true_eq, allN_iff] at h
  exact ⟨h.1.1.1, fun i hi => (h.1.2 i (by omega)).1⟩
def sameP (w : WorldT) : Bool × Bool := if goodW w = true then ((nth w.Regions 0).Version == (nth w.Regions 1).Version && decide ((nth w.Regions 0).Tellings = (nth w.Regions 1).Tellings), true) else (false, false)
theorem spec_SameIn_eq (w : WorldT) (hw : ok_World w) : spec_SameIn w = some (sameP w) := by
  unfold spec_SameIn sameP
  rw [spec_GoodWorld_eq _ hw]
  simp only [Option.bind_some]
  cases hg : goodW w
  · simp
  obtain ⟨h2, hr⟩ := goodW_regions hg
  have o0 : ok_Region (nth w.Regions 0) := hw.1.2 _ (nth_mem (by omega))
  have o1 : ok_Region (nth w.Regions 1) := hw.1.2 _ (nth_mem (by omega))
  rw [if_neg (by simp), guard_pos (by omega), guard_pos (by omega)]
  unfold spec_l17Same
  simp only [spec_same_eq _ _ o0.2.2 o1.2.2 (goodR_tell (hr 0 (by omega))) (goodR_tell (hr 1 (by omega))), Option.bind_some]
  cases ((nth w.Regions 0).Version == (nth w.Regions 1).Version) <;> simp
theorem impl_SameIn_eq (w : WorldT) (hw : ok_World w) : impl_SameIn w = some (sameP w) := by
  unfold impl_SameIn sameP
  rw [impl_GoodWorld_eq _ hw]
  simp only [Option.bind_some]
  cases hg : goodW w
  · simp
  obtain ⟨h2, hr⟩ := goodW_regions hg
  have o0 : ok_Region (nth w.Regions 0) := hw.1.2 _ (nth_mem (by omega))
  rw [if_neg (by simp), guard_pos (by omega), guard_pos (by omega)]
  unfold impl_sameWord_rr
  simp only [impl_same_eq _ _ o0.2.2 (goodR_tell (hr 0 (by omega))), Option.bind_some]
  cases ((nth w.Regions 0).Version == (nth w.Regions 1).Version) <;> simp
theorem same_holds (w : WorldT) (hw : ok_World w) : laws_FnExactSameIn w = some true := by
  unfold laws_FnExactSameIn
  rw [laws_szWorld_eq _ _ hw (by omega) (by omega)]
  simp only [Option.bind_some]
  by_cases h : (siz_World w : Int) ≤ 1048576
  rotate_left
  · rw [if_pos (decide_eq_true (szr_no h))]
  rw [if_neg (by simpa using szr_ok h), laws_toWorld_eq _ (by omega)]
  simp only [Option.bind_some]
  rw [spec_SameIn_eq _ hw, impl_SameIn_eq _ hw, laws_eqWorld_eq _ _ (lk_of_World hw)]
  simp
end Go.TL

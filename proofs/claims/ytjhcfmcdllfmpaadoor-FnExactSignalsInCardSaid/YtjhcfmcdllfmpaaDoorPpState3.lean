import Derived.Test.YtjhcfmcdllfmpaaDoorPpState2
set_option linter.unusedSimpArgs false
set_option linter.unusedVariables false
set_option linter.unusedVariables false
set_option linter.unusedSimpArgs false
namespace Go.TL

def evP (e : EventT) : Bool := decide (1 ≤ e.Id ∧ e.Id ≤ 1000) && verP e.Version && decide (1 ≤ e.Kind ∧ e.Kind ≤ 6) && nameP e.Name
theorem spec_GoodEvent_eq (e : EventT) (h : ok_S e.Name) : spec_GoodEvent e = some (evP e) := by
  unfold spec_GoodEvent evP verP
  simp only [spec_l1In_eq, spec_l1Name_eq _ h, Option.bind_some]
  cases decide (1 ≤ e.Id ∧ e.Id ≤ 1000) <;> cases decide (0 ≤ e.Version ∧ e.Version ≤ 1000000) <;> cases decide (1 ≤ e.Kind ∧ e.Kind ≤ 6) <;> simp
theorem impl_GoodEvent_eq (e : EventT) : impl_GoodEvent e = some (evP e) := by
  unfold impl_GoodEvent impl_isVersion impl_goodKind evP verP
  simp only [impl_in_eq, impl_goodName_eq, Option.bind_some]
  cases decide (1 ≤ e.Id ∧ e.Id ≤ 1000) <;> cases decide (0 ≤ e.Version ∧ e.Version ≤ 1000000) <;> cases decide (1 ≤ e.Kind ∧ e.Kind ≤ 6) <;> simp

def mayP (s : StateT) (e : EventT) : Bool := evP e && decide (e.Id = s.Next) && decide (e.Kind = 1 ↔ s.Status = 0) && !decide (s.Status = 2)
def outP (s : StateT) (e : EventT) : Option StateT :=
  if e.Kind = 1 then some ⟨1, s.Next + 1, s.Cancel, s.Done, s.Signals, s.Timers⟩
  else if e.Kind = 2 then (if (hasS s.Signals e.Name || decide (s.Signals.length = 30)) = true then none else some ⟨s.Status, s.Next + 1, s.Cancel, s.Done, s.Signals ++ [e.Name], s.Timers⟩)
  else if e.Kind = 3 then some ⟨s.Status, s.Next + 1, s.Cancel, s.Done + 1, s.Signals, s.Timers⟩
  else if e.Kind = 4 then some ⟨s.Status, s.Next + 1, s.Cancel, s.Done, s.Signals, turnP s.Timers e.Name⟩
  else if e.Kind = 5 then (if s.Cancel = true then none else some ⟨s.Status, s.Next + 1, true, s.Done, s.Signals, s.Timers⟩)
  else some ⟨2, s.Next + 1, s.Cancel, s.Done, s.Signals, []⟩
def applyP (s : StateT) (e : EventT) : Option StateT := if mayP s e = true then (outP s e).bind (fun t => if goodS t = true then some t else none) else none

theorem goodS_num {s : StateT} (h : goodS s = true) : (1 ≤ s.Next ∧ s.Next ≤ 1001) ∧ (0 ≤ s.Done ∧ s.Done ≤ 1000) ∧ (0 ≤ s.Status ∧ s.Status ≤ 2) ∧ okL false s.Signals = true ∧ okL true s.Timers = true := by
  unfold goodS at h
  simp only [Bool.and_eq_true, decide_eq_true_eq] at h
  exact ⟨h.1.1.1.1.1, h.1.1.1.1.2, h.1.1.1.2, h.1.1.2, h.1.2⟩
theorem turnP_ok {l : List ByteArray} {x : ByteArray} (h : okL true l = true) (hx : ok_S x) : ok_LS (turnP l x) := by
  obtain ⟨k, _, hk, _, he⟩ := search_eq l x h
  have hl := okL_len h
  have ho := okL_ok h
  rw [he]
  split
  · refine ⟨by rw [List.length_append, List.length_take, List.length_drop]; omega, fun y hy => ?_⟩
    rw [List.mem_append] at hy
    rcases hy with hy | hy
    · exact ho.2 y (List.mem_of_mem_take hy)
    · exact ho.2 y (List.mem_of_mem_drop hy)
  · refine ⟨by rw [List.length_append, List.length_append, List.length_take, List.length_drop, List.length_singleton]; omega, fun y hy => ?_⟩
    rw [List.mem_append, List.mem_append, List.mem_singleton] at hy
    rcases hy with (hy | hy) | hy
    · exact ho.2 y (List.mem_of_mem_take hy)
    · rw [hy]; exact hx
    · exact ho.2 y (List.mem_of_mem_drop hy)

theorem spec_l12Apply_eq (s : StateT) (e : EventT) (hs : goodS s = true) (he : ok_S e.Name) : ∃ r, spec_l12Apply s e = some r ∧ applyP s e = if r.2 = true then some r.1 else none := by
  obtain ⟨hN, hD, hS, hl1, hl2⟩ := goodS_num hs
  have n1 := okL_len hl1
  have n2 := okL_len hl2
  have o1 := okL_ok hl1
  have o2 := okL_ok hl2
  have hJ : (if (!evP e) = true then some (⟨true⟩ : spec_l12Apply_J4001) else if (e.Id != s.Next) = true then some ⟨true⟩ else if (!((e.Kind == 1) == (s.Status == 0))) = true then some ⟨true⟩ else some ⟨(s.Status == 2)⟩) = some ⟨!mayP s e⟩ := by
    unfold mayP
    cases evP e
    · simp
    rw [show (e.Kind == 1) = decide (e.Kind = 1) from rfl, show (s.Status == 0) = decide (s.Status = 0) from rfl]
    by_cases h1 : e.Id = s.Next
    · by_cases h2 : e.Kind = 1 <;> by_cases h3 : s.Status = 0 <;> by_cases h4 : s.Status = 2 <;> simp [h1, h2, h3, h4]
    · simp [h1]
  unfold spec_l12Apply
  rw [spec_GoodEvent_eq e he]
  simp only [Option.bind_some]
  rw [hJ]
  simp only [Option.bind_some]
  unfold applyP
  by_cases hm : mayP s e = true
  rotate_left
  · exact ⟨(s, false), by simp [hm], by simp [hm]⟩
  rw [if_pos hm, hm]
  simp only [Bool.not_true, Bool.false_eq_true, if_false]
  have hown : spec_l12Own s = some s := by
    unfold spec_l12Own
    rw [guard_pos (by omega), guard_pos (by omega)]
    simp only [List.nil_append]
  rw [hown]
  simp only [Option.bind_some, beq_iff_eq]
  have hw : wI (s.Next + 1) = s.Next + 1 := wI_id (by omega)
  have hw2 : wI (s.Done + 1) = s.Done + 1 := wI_id (by omega)
  have hk : 1 ≤ e.Kind ∧ e.Kind ≤ 6 := by
    unfold mayP evP at hm
    simp only [Bool.and_eq_true, decide_eq_true_eq] at hm
    exact hm.1.1.1.1.2
  have fin : ∀ (t : StateT), ok_LS t.Signals → ok_LS t.Timers → ∃ r, (Option.bind (spec_GoodState t) fun c73 => some (t, c73)) = some r ∧ (Option.bind (some t) fun t => if goodS t = true then some t else none) = if r.2 = true then some r.1 else none :=
    fun t h1 h2 => ⟨_, by rw [spec_GoodState_eq t h1 h2]; rfl, by rfl⟩
  unfold outP
  rw [hw]
  by_cases h1 : e.Kind = 1
  · rw [if_pos h1, if_pos h1]; simp only [Option.bind_some]; exact fin ⟨1, s.Next + 1, s.Cancel, s.Done, s.Signals, s.Timers⟩ o1 o2
  by_cases h2 : e.Kind = 2
  · rw [if_neg h1, if_pos h2, if_neg h1, if_pos h2]
    obtain ⟨k, hk, hp⟩ := spec_l12At_ge s.Signals e.Name (by omega)
    rw [hk]
    simp only [Option.bind_some, hp]
    have hJ2 : (if hasS s.Signals e.Name = true then some (⟨true⟩ : spec_l12Apply_J4010) else some ⟨(((s.Signals.length : Nat) : Int) == 30)⟩) = some ⟨hasS s.Signals e.Name || decide (s.Signals.length = 30)⟩ := by
      cases hasS s.Signals e.Name
      · simp only [Bool.false_eq_true, if_false, Bool.false_or]
        congr 2
        rw [Bool.eq_iff_iff, beq_iff_eq, decide_eq_true_eq]; omega
      · simp
    rw [hJ2]
    simp only [Option.bind_some]
    cases hb : (hasS s.Signals e.Name || decide (s.Signals.length = 30))
    · simp only [Bool.false_eq_true, if_false]
      rw [guard_pos (by omega)]
      simp only [Option.bind_some]
      exact fin ⟨s.Status, s.Next + 1, s.Cancel, s.Done, s.Signals ++ [e.Name], s.Timers⟩ ⟨by simp only [List.length_append, List.length_singleton]; omega, fun y hy => by
        rw [List.mem_append, List.mem_singleton] at hy
        rcases hy with hy | hy
        · exact o1.2 y hy
        · rw [hy]; exact he⟩ o2
    · exact ⟨(s, false), by simp, by simp⟩
  by_cases h3 : e.Kind = 3
  · rw [if_neg h1, if_neg h2, if_pos h3, if_neg h1, if_neg h2, if_pos h3]
    simp only [Option.bind_some, hw2]
    exact fin ⟨s.Status, s.Next + 1, s.Cancel, s.Done + 1, s.Signals, s.Timers⟩ o1 o2
  by_cases h4 : e.Kind = 4
  · rw [if_neg h1, if_neg h2, if_neg h3, if_pos h4, if_neg h1, if_neg h2, if_neg h3, if_pos h4, spec_l12Timer_eq _ _ n2]
    simp only [Option.bind_some]
    exact fin ⟨s.Status, s.Next + 1, s.Cancel, s.Done, s.Signals, turnP s.Timers e.Name⟩ o1 (turnP_ok hl2 he)
  by_cases h5 : e.Kind = 5
  · rw [if_neg h1, if_neg h2, if_neg h3, if_neg h4, if_pos h5, if_neg h1, if_neg h2, if_neg h3, if_neg h4, if_pos h5]
    cases hb : s.Cancel
    · simp only [Bool.false_eq_true, if_false, Option.bind_some]
      exact fin ⟨s.Status, s.Next + 1, true, s.Done, s.Signals, s.Timers⟩ o1 o2
    · exact ⟨(s, false), by simp, by simp⟩
  · rw [if_neg h1, if_neg h2, if_neg h3, if_neg h4, if_neg h5, if_neg h1, if_neg h2, if_neg h3, if_neg h4, if_neg h5]
    simp only [Option.bind_some]
    exact fin ⟨2, s.Next + 1, s.Cancel, s.Done, s.Signals, []⟩ o1 ⟨by simp, fun y hy => by simp at hy⟩

theorem impl_turnTimer_eq (s : StateT) (x : ByteArray) (h : okL true s.Timers = true) : ∃ r, impl_State_turnTimer_o s x = some r ∧
    (r.1 = true → r.2 = ⟨s.Status, s.Next, s.Cancel, s.Done, s.Signals, turnP s.Timers x⟩) ∧ (r.1 = false → hasS s.Timers x = false ∧ s.Timers.length = 30) := by
  obtain ⟨k, hk, hkl, hlt, he⟩ := search_eq s.Timers x h
  have hl := okL_len h
  unfold impl_State_turnTimer_o
  rw [hk]
  simp only [Option.bind_some]
  cases hb : hasS s.Timers x
  · simp only [Bool.false_eq_true, if_false]
    by_cases h30 : s.Timers.length = 30
    · rw [if_pos (by simp; omega)]
      exact ⟨_, rfl, fun h => (by cases h), fun _ => ⟨by simp, h30⟩⟩
    · rw [if_neg (by simp; omega)]
      unfold slices_Insert_string_w
      rw [guard_pos ⟨rfl, by omega, by omega, by omega⟩]
      simp only [Option.bind_some, Int.toNat_natCast]
      refine ⟨_, rfl, fun _ => ?_, fun h => by cases h⟩
      rw [he, hb]
      simp
  · simp only [if_true]
    have hk1 := hlt hb
    have e1 : wI ((k : Int) + 1) = ((k + 1 : Nat) : Int) := by rw [wI_id (by omega)]; omega
    unfold slices_Delete_string_w
    rw [e1, guard_pos ⟨by omega, by omega, by omega, by omega⟩]
    simp only [Option.bind_some, Int.toNat_natCast]
    refine ⟨_, rfl, fun _ => ?_, fun h => by cases h⟩
    rw [he, hb]
    simp

theorem impl_apply_eq (s : StateT) (e : EventT) (hs : goodS s = true) (hev : evP e = true) (hid : e.Id = s.Next) : ∃ r, impl_State_apply_o s e.Kind e.Name = some r ∧
    (r.1 = true → mayP s e = true ∧ outP s e = some r.2) ∧ (r.1 = false → applyP s e = none) := by
  obtain ⟨hN, hD, hS, hl1, hl2⟩ := goodS_num hs
  have n1 := okL_len hl1
  have n2 := okL_len hl2
  have hk : (1 ≤ e.Id ∧ e.Id ≤ 1000) ∧ 1 ≤ e.Kind ∧ e.Kind ≤ 6 := by
    unfold evP at hev
    simp only [Bool.and_eq_true, decide_eq_true_eq] at hev
    exact ⟨hev.1.1.1, hev.1.2⟩
  have hJ : (if decide (s.Next > 1000) = true then some (⟨true⟩ : impl_State_apply_o_J4001) else if (!((e.Kind == 1) == (s.Status == 0))) = true then some ⟨true⟩ else if (e.Kind != 1) = true then some ⟨(s.Status != 1)⟩ else some ⟨false⟩) = some ⟨!mayP s e⟩ := by
    unfold mayP
    rw [hev, if_neg (by simp; omega), show (e.Kind == 1) = decide (e.Kind = 1) from rfl, show (s.Status == 0) = decide (s.Status = 0) from rfl]
    by_cases h2 : e.Kind = 1
    · by_cases h3 : s.Status = 0
      · simp [hid, h2, h3]
      · simp [hid, h2, h3]
    · by_cases h3 : s.Status = 0
      · simp [hid, h2, h3]
      · by_cases h4 : s.Status = 2
        · simp [hid, h2, h3, h4]
        · have : s.Status = 1 := by omega
          simp [hid, h2, h3, this]
  unfold impl_State_apply_o
  rw [hJ]
  simp only [Option.bind_some]
  by_cases hm : mayP s e = true
  rotate_left
  · refine ⟨(false, s), by simp [hm], fun h => (by cases h), fun _ => by unfold applyP; rw [if_neg hm]⟩
  have hno : outP s e = none → applyP s e = none := fun h => by unfold applyP; rw [if_pos hm, h]; rfl
  rw [hm]
  simp only [Bool.not_true, Bool.false_eq_true, if_false, beq_iff_eq]
  have hw : wI (s.Next + 1) = s.Next + 1 := wI_id (by omega)
  have hw2 : wI (s.Done + 1) = s.Done + 1 := wI_id (by omega)
  rw [hw, hw2]
  by_cases h1 : e.Kind = 1
  · rw [if_pos h1]; exact ⟨_, rfl, fun _ => ⟨trivial, by unfold outP; rw [if_pos h1]⟩, fun h => by cases h⟩
  by_cases h2 : e.Kind = 2
  · rw [if_neg h1, if_pos h2, containsS_eq _ _ (by omega)]
    have hJ2 : (if hasS s.Signals e.Name = true then some (⟨true⟩ : impl_State_apply_o_J4007) else some ⟨(((s.Signals.length : Nat) : Int) == 30)⟩) = some ⟨hasS s.Signals e.Name || decide (s.Signals.length = 30)⟩ := by
      cases hasS s.Signals e.Name
      · simp only [Bool.false_eq_true, if_false, Bool.false_or]
        congr 2
        rw [Bool.eq_iff_iff, beq_iff_eq, decide_eq_true_eq]; omega
      · simp
    simp only [Option.bind_some, hJ2]
    cases hb : (hasS s.Signals e.Name || decide (s.Signals.length = 30))
    · simp only [Bool.false_eq_true, if_false]
      rw [guard_pos (by omega)]
      exact ⟨_, rfl, fun _ => ⟨trivial, by unfold outP; rw [if_neg h1, if_pos h2, hb]; rfl⟩, fun h => by cases h⟩
    · simp only [if_true]
      exact ⟨_, rfl, fun h => (by cases h), fun _ => hno (by unfold outP; rw [if_neg h1, if_pos h2, hb]; rfl)⟩
  by_cases h3 : e.Kind = 3
  · rw [if_neg h1, if_neg h2, if_pos h3]; exact ⟨_, rfl, fun _ => ⟨trivial, by unfold outP; rw [if_neg h1, if_neg h2, if_pos h3]⟩, fun h => by cases h⟩
  by_cases h4 : e.Kind = 4
  · rw [if_neg h1, if_neg h2, if_neg h3, if_pos h4]
    obtain ⟨r, hr, ht, hf⟩ := impl_turnTimer_eq s e.Name hl2
    rw [hr]
    simp only [Option.bind_some]
    cases hb : r.1
    · simp only [Bool.not_false, if_true]
      refine ⟨_, rfl, fun h => (by cases h), fun _ => ?_⟩
      unfold applyP
      rw [if_pos hm]
      unfold outP
      rw [if_neg h1, if_neg h2, if_neg h3, if_pos h4]
      simp only [Option.bind_some]
      obtain ⟨f1, f2⟩ := hf hb
      have hbad : ¬ goodS ⟨s.Status, s.Next + 1, s.Cancel, s.Done, s.Signals, turnP s.Timers e.Name⟩ = true := fun h => by
        have h1 := okL_len (goodS_num h).2.2.2.2
        obtain ⟨k, _, hk, _, he⟩ := search_eq s.Timers e.Name hl2
        simp only at h1
        rw [he, f1] at h1
        simp only [Bool.false_eq_true, if_false, List.length_append, List.length_take, List.length_drop, List.length_singleton] at h1
        omega
      rw [if_neg hbad]
    · simp only [Bool.not_true, Bool.false_eq_true, if_false]
      rw [ht hb]
      simp only [hw]
      exact ⟨_, rfl, fun _ => ⟨trivial, by unfold outP; rw [if_neg h1, if_neg h2, if_neg h3, if_pos h4]⟩, fun h => by cases h⟩
  by_cases h5 : e.Kind = 5
  · rw [if_neg h1, if_neg h2, if_neg h3, if_neg h4, if_pos h5]
    cases hb : s.Cancel
    · simp only [Bool.false_eq_true, if_false]
      exact ⟨_, rfl, fun _ => ⟨trivial, by unfold outP; rw [if_neg h1, if_neg h2, if_neg h3, if_neg h4, if_pos h5, hb]; rfl⟩, fun h => by cases h⟩
    · simp only [if_true]
      exact ⟨_, rfl, fun h => (by cases h), fun _ => hno (by unfold outP; rw [if_neg h1, if_neg h2, if_neg h3, if_neg h4, if_pos h5, hb]; rfl)⟩
  · have h6 : e.Kind = 6 := by omega
    rw [if_neg h1, if_neg h2, if_neg h3, if_neg h4, if_neg h5, if_pos h6]
    exact ⟨_, rfl, fun _ => ⟨trivial, by unfold outP; rw [if_neg h1, if_neg h2, if_neg h3, if_neg h4, if_neg h5]⟩, fun h => by cases h⟩

def zeroS : StateT := ⟨0, 0, false, 0, [], []⟩
theorem turnP_len {l : List ByteArray} {x : ByteArray} (h : okL true l = true) : (turnP l x).length ≤ 31 := by
  obtain ⟨k, _, hk, _, he⟩ := search_eq l x h
  have hl := okL_len h
  rw [he]
  split
  · rw [List.length_append, List.length_take, List.length_drop]; omega
  · rw [List.length_append, List.length_append, List.length_take, List.length_drop, List.length_singleton]; omega
theorem outP_len {s t : StateT} {e : EventT} (hs : goodS s = true) (h : outP s e = some t) : t.Signals.length ≤ 31 ∧ t.Timers.length ≤ 31 := by
  obtain ⟨hN, hD, hS, hl1, hl2⟩ := goodS_num hs
  have n1 := okL_len hl1
  have n2 := okL_len hl2
  have n3 := turnP_len (x := e.Name) hl2
  unfold outP at h
  split at h
  · cases h; simp only; omega
  split at h
  · split at h
    · cases h
    · cases h; simp only [List.length_append, List.length_singleton]; omega
  split at h
  · cases h; simp only; omega
  split at h
  · cases h; simp only; omega
  split at h
  · split at h
    · cases h
    · cases h; simp only; omega
  · cases h; simp only [List.length_nil]; omega
theorem impl_ApplyEvent_eq (s : StateT) (e : EventT) (h1 : s.Signals.length ≤ 9223372036854775807) (h2 : s.Timers.length ≤ 9223372036854775807) :
    impl_ApplyEvent s e = some (if goodS s = true then (match applyP s e with | some t => (t, true) | none => (zeroS, false)) else (zeroS, false)) := by
  unfold impl_ApplyEvent
  rw [impl_GoodState_eq s h1 h2, impl_GoodEvent_eq]
  simp only [Option.bind_some]
  by_cases hs : goodS s = true
  rotate_left
  · simp [hs]; rfl
  obtain ⟨hN, hD, hS, hl1, hl2⟩ := goodS_num hs
  have n1 := okL_len hl1
  have n2 := okL_len hl2
  rw [hs]
  simp only [Bool.not_true, Bool.false_eq_true, if_false, if_true]
  by_cases hev : evP e = true
  rotate_left
  · have : applyP s e = none := by unfold applyP mayP; simp [hev]
    simp [hev, this]; rfl
  by_cases hid : e.Id = s.Next
  rotate_left
  · have : applyP s e = none := by unfold applyP mayP; simp [hid]
    simp [hev, hid, this]; rfl
  have hJ : (if (!evP e) = true then some (⟨true⟩ : impl_ApplyEvent_J4001) else some ⟨(e.Id != s.Next)⟩) = some ⟨false⟩ := by simp [hev, hid]
  rw [hJ]
  have hcl : impl_cloneState s = some s := by
    unfold impl_cloneState slices_Clone_string
    rw [guard_pos (by omega), guard_pos (by omega)]
    rfl
  simp only [Option.bind_some, Bool.false_eq_true, if_false, hcl]
  obtain ⟨r, hr, ht, hf⟩ := impl_apply_eq s e hs hev hid
  rw [hr]
  simp only [Option.bind_some]
  cases hb : r.1
  · simp [hf hb]; rfl
  · obtain ⟨g1, g2⟩ := ht hb
    have hlen := outP_len hs g2
    simp only [Bool.not_true, Bool.false_eq_true, if_false]
    rw [impl_GoodState_eq r.2 (by omega) (by omega)]
    have ha : applyP s e = if goodS r.2 = true then some r.2 else none := by unfold applyP; rw [if_pos g1, g2]; rfl
    rw [ha]
    simp only [Option.bind_some]
    cases hg : goodS r.2
    · simp; rfl
    · simp
theorem applyP_good {s t : StateT} {e : EventT} (h : applyP s e = some t) : goodS t = true := by
  unfold applyP at h
  split at h
  · cases ho : outP s e with
    | none => rw [ho] at h; cases h
    | some u =>
      rw [ho] at h
      simp only [Option.bind_some] at h
      split at h
      · cases h; assumption
      · cases h
  · cases h

/-- A state of events. -/
def foldQ : List EventT → StateT → Nat → StateT × Nat
  | [], s, n => (s, n)
  | e :: r, s, n => match applyP s e with
    | some t => foldQ r t (n + 1)
    | none => (s, n)
def newS : StateT := ⟨0, 1, false, 0, [], []⟩
theorem newS_good : goodS newS = true := by
  have h : ∀ r, okL r [] = true := fun r => by unfold okL; simp [allN]
  unfold goodS newS
  simp only [h]
  decide
def foldP (l : List EventT) : StateT × Nat := foldQ l newS 0
theorem drop_cons {α : Type} [Inhabited α] {l r : List α} {y : α} {i : Nat} (hd : l.drop i = y :: r) : i < l.length ∧ nth l i = y ∧ l.drop (i + 1) = r := by
  have hlt : i < l.length := by
    have := congrArg List.length hd
    rw [List.length_drop, List.length_cons] at this
    omega
  have := List.drop_eq_getElem_cons hlt
  rw [hd] at this
  exact ⟨hlt, by rw [nth_eq hlt]; exact (List.cons.inj this).1.symm, (List.cons.inj this).2.symm⟩
theorem drop_nil {α : Type} {l : List α} {i : Nat} (hd : l.drop i = []) (hi : i ≤ l.length) : i = l.length := by
  have := congrArg List.length hd
  rw [List.length_drop, List.length_nil] at this
  omega
theorem impl_fold_loop (l : List EventT) (hl : l.length ≤ 9223372036854775807) : ∀ (r : List EventT) (i : Nat) (s : StateT), l.drop i = r → i ≤ l.length → goodS s = true →
    ∃ y, loopF (impl_FoldEvents_L1 l) ⟨(i : Int), s.Status, s.Next, s.Cancel, s.Done, s.Signals, s.Timers⟩ = some y ∧ (match y with
      | .inl p180 => some ((⟨p180.b0_0, p180.b0_1, p180.b0_2, p180.b0_3, p180.c1, p180.c2⟩ : StateT), p180.t3)
      | .inr p181 => some ((⟨p181.b1_0, p181.b1_1, p181.b1_2, p181.b1_3, p181.c2, p181.c3⟩ : StateT), ((l.length : Nat) : Int))) = some ((foldQ r s i).1, (((foldQ r s i).2 : Nat) : Int)) := by
  intro r
  induction r with
  | nil =>
    intro i s hd hi hs
    have hi' := drop_nil hd hi
    subst hi'
    refine ⟨_, loop_out (by unfold impl_FoldEvents_L1; rw [if_neg (by simp)]), rfl⟩
  | cons e r ih =>
    intro i s hd hi hs
    obtain ⟨hlt, hy, hr⟩ := drop_cons hd
    have n := goodS_num hs
    have n1 := okL_len n.2.2.2.1
    have n2 := okL_len n.2.2.2.2
    have hstep : impl_FoldEvents_L1 l ⟨(i : Int), s.Status, s.Next, s.Cancel, s.Done, s.Signals, s.Timers⟩ = some (match applyP s e with
        | some t => .inl ⟨((i + 1 : Nat) : Int), t.Status, t.Next, t.Cancel, t.Done, t.Signals, t.Timers⟩
        | none => .inr (.inl ⟨(i : Int), s.Status, s.Next, s.Cancel, s.Done, s.Signals, s.Timers⟩)) := by
      unfold impl_FoldEvents_L1
      have e1 : wI ((i : Int) + 1) = ((i + 1 : Nat) : Int) := by rw [wI_id (by omega)]; omega
      simp only [Int.toNat_natCast, hy, e1]
      rw [if_pos (by simp; omega), guard_pos (by omega), impl_ApplyEvent_eq _ _ (by simp only; omega) (by simp only; omega)]
      have hs' : goodS ⟨s.Status, s.Next, s.Cancel, s.Done, s.Signals, s.Timers⟩ = true := hs
      simp only [Option.bind_some]
      rw [if_pos hs']
      cases applyP s e <;> rfl
    unfold foldQ
    cases ha : applyP s e with
    | some t =>
      rw [ha] at hstep
      rw [loop_on hstep]
      exact ih (i + 1) t hr (by omega) (applyP_good ha)
    | none =>
      rw [ha] at hstep
      exact ⟨_, loop_out hstep, rfl⟩
theorem impl_FoldEvents_eq (l : List EventT) (hl : l.length ≤ 9223372036854775807) : impl_FoldEvents l = some ((foldP l).1, (((foldP l).2 : Nat) : Int)) := by
  unfold impl_FoldEvents impl_NewState
  simp only [Option.bind_some]
  obtain ⟨y, hy, he⟩ := impl_fold_loop l hl l 0 newS rfl (by omega) newS_good
  have hy' : loopF (impl_FoldEvents_L1 l) ⟨0, 0, 1, false, 0, [], []⟩ = some y := hy
  rw [hy']
  exact he
theorem spec_fold_loop (l : List EventT) (hl : ok_LEvent l) : ∀ (r : List EventT) (i : Nat) (s : StateT), l.drop i = r → i ≤ l.length → goodS s = true →
    ∃ y, loopF (spec_l12Fold_L1 l) ⟨(i : Int), s.Status, s.Next, s.Cancel, s.Done, s.Signals, s.Timers⟩ = some y ∧ (match y with
      | .inl p77 => some ((⟨p77.b0_0, p77.b0_1, p77.b0_2, p77.b0_3, p77.b0_4, p77.b0_5⟩ : StateT), p77.t3)
      | .inr p78 => some ((⟨p78.b1_0, p78.b1_1, p78.b1_2, p78.b1_3, p78.b1_4, p78.b1_5⟩ : StateT), ((l.length : Nat) : Int))) = some ((foldQ r s i).1, (((foldQ r s i).2 : Nat) : Int)) := by
  have hl1 := hl.1
  intro r
  induction r with
  | nil =>
    intro i s hd hi hs
    have hi' := drop_nil hd hi
    subst hi'
    refine ⟨_, loop_out (by unfold spec_l12Fold_L1; rw [if_neg (by simp)]), rfl⟩
  | cons e r ih =>
    intro i s hd hi hs
    obtain ⟨hlt, hy, hr⟩ := drop_cons hd
    have hne : ok_S e.Name := by rw [← hy]; exact (hl.2 _ (nth_mem hlt)).2.2.2
    obtain ⟨q, hq, ha⟩ := spec_l12Apply_eq s e hs hne
    have hstep : spec_l12Fold_L1 l ⟨(i : Int), s.Status, s.Next, s.Cancel, s.Done, s.Signals, s.Timers⟩ = some (match applyP s e with
        | some t => .inl ⟨((i + 1 : Nat) : Int), t.Status, t.Next, t.Cancel, t.Done, t.Signals, t.Timers⟩
        | none => .inr (.inl ⟨(i : Int), s.Status, s.Next, s.Cancel, s.Done, s.Signals, s.Timers⟩)) := by
      unfold spec_l12Fold_L1
      have e1 : wI ((i : Int) + 1) = ((i + 1 : Nat) : Int) := by rw [wI_id (by omega)]; omega
      simp only [Int.toNat_natCast, hy, e1]
      rw [if_pos (by simp; omega), guard_pos (by omega)]
      have hq' : spec_l12Apply ⟨s.Status, s.Next, s.Cancel, s.Done, s.Signals, s.Timers⟩ e = some q := hq
      rw [hq', ha]
      simp only [Option.bind_some]
      cases q.2 <;> rfl
    unfold foldQ
    cases hb : applyP s e with
    | some t =>
      rw [hb] at hstep
      rw [loop_on hstep]
      exact ih (i + 1) t hr (by omega) (applyP_good hb)
    | none =>
      rw [hb] at hstep
      exact ⟨_, loop_out hstep, rfl⟩
theorem spec_l12Fold_eq (l : List EventT) (hl : ok_LEvent l) : spec_l12Fold l = some ((foldP l).1, (((foldP l).2 : Nat) : Int)) := by
  unfold spec_l12Fold spec_NewState
  simp only [Option.bind_some]
  obtain ⟨y, hy, he⟩ := spec_fold_loop l hl l 0 newS rfl (by omega) newS_good
  have hy' : loopF (spec_l12Fold_L1 l) ⟨0, 0, 1, false, 0, [], []⟩ = some y := hy
  rw [hy']
  exact he
end Go.TL

import Derived.Test.YtjkeoippmlmfbaaGreatDoorG29PpOrd
import Derived.Test.YtjkeoippmlmfbaaGreatDoorG30PlR5C
import Derived.Test.YtjkeoippmlmfbaaGreatDoorG28PpDeep
set_option linter.unusedSimpArgs false
set_option linter.unusedVariables false
set_option linter.unusedVariables false
set_option linter.unusedSimpArgs false
set_option maxRecDepth 4000
namespace Go.TL
def smallB (l : List BranchT) : Prop := ∀ i,i < l.length → (nth l i).Events.length ≤ 1000
theorem ownEv_eq (l : List EventT) (h : l.length ≤ 1000) : spec_l15OwnEvents l = some l := by
  unfold spec_l15OwnEvents
  rw [guard_pos (by omega),List.nil_append]
theorem add_loop (l : List BranchT) (h : List EventT) (hl : l.length ≤ 1000) (hs : smallB l) (hh : h.length ≤ 1000) : ∀ (r : List BranchT) (i : Nat) (put : Bool) (c : List BranchT),l.drop i = r → i ≤ l.length → c.length ≤ 2 * i →
    ∃ put' c',loopF (spec_l15Add_L2 l h) ⟨put,(i : Int),c⟩ = some ⟨put',c'⟩ ∧ (if put' = true then c' else c' ++ [⟨h⟩]) = c ++ putB h r put ∧ c'.length ≤ 2 * l.length := by
  intro r
  induction r with
  | nil =>
    intro i put c hd hi hc
    have e := drop_nil hd hi
    refine ⟨put,c,loop_out ?_,?_,by omega⟩
    · unfold spec_l15Add_L2
      dsimp only
      rw [if_neg (by rw [decide_eq_true_eq]; omega)]
    · unfold putB
      cases put <;> simp
  | cons b r ih =>
    intro i put c hd hi hc
    obtain ⟨hlt,hb,hr⟩ := drop_cons hd
    have hbs : b.Events.length ≤ 1000 := by rw [← hb]; exact hs i hlt
    have e1 : wI ((i : Int) + 1) = ((i + 1 : Nat) : Int) := by rw [wI_id (by omega)]; omega
    have ebb : (⟨b.Events⟩ : BranchT) = b := rfl
    have hstep : spec_l15Add_L2 l h ⟨put,(i : Int),c⟩ = some (.inl (if begB b.Events h = true then ⟨put,((i + 1 : Nat) : Int),c⟩ else if ((cmpL b.Events h).1 > 0 ∧ put = false) then ⟨true,((i + 1 : Nat) : Int),(c ++ [⟨h⟩]) ++ [b]⟩ else ⟨put,((i + 1 : Nat) : Int),c ++ [b]⟩)) := by
      unfold spec_l15Add_L2
      simp only [Int.toNat_natCast,hb,e1]
      rw [if_pos (by rw [decide_eq_true_eq]; omega),guard_pos (by omega),spec_l15Begins_eq _ _ (by omega) (by omega)]
      simp only [Option.bind_some]
      cases hbg : begB b.Events h
      · rw [if_neg (by simp),if_neg (by simp),spec_l15Compare_eq _ _ (by omega) (by omega)]
        simp only [Option.bind_some,ownEv_eq _ hh,ownEv_eq _ hbs,ebb]
        by_cases hc1 : (cmpL b.Events h).1 > 0
        · rw [if_pos (decide_eq_true hc1)]
          cases put
          · simp only [Option.bind_some,Bool.not_false,if_true]
            rw [guard_pos (by omega),guard_pos (by omega),if_pos ⟨hc1,trivial⟩]
          · simp only [Option.bind_some,Bool.not_true,Bool.false_eq_true,if_false]
            rw [guard_pos (by omega),if_neg (by simp)]
        · rw [if_neg (by simpa using hc1)]
          simp only [Option.bind_some,Bool.false_eq_true,if_false]
          rw [guard_pos (by omega),if_neg (fun h => hc1 h.1)]
      · rw [if_pos rfl,if_pos rfl]
    rw [loop_on hstep]
    unfold putB
    by_cases hbg : begB b.Events h = true
    · rw [if_pos hbg,if_pos hbg]
      exact ih (i + 1) put c hr (by omega) (by omega)
    · rw [if_neg hbg,if_neg hbg]
      by_cases hc1 : (cmpL b.Events h).1 > 0 ∧ put = false
      · rw [if_pos hc1,if_pos hc1]
        obtain ⟨p',c',g1,g2,g3⟩ := ih (i + 1) true ((c ++ [⟨h⟩]) ++ [b]) hr (by omega) (by simp only [List.length_append,List.length_singleton]; omega)
        exact ⟨p',c',g1,by rw [g2]; simp,g3⟩
      · rw [if_neg hc1,if_neg hc1]
        obtain ⟨p',c',g1,g2,g3⟩ := ih (i + 1) put (c ++ [b]) hr (by omega) (by simp only [List.length_append,List.length_singleton]; omega)
        exact ⟨p',c',g1,by rw [g2]; simp,g3⟩
def addS (l : List BranchT) (h : List EventT) : List BranchT := if (l.any fun b => begB h b.Events) = true then l else putB h l false
theorem spec_l15Add_eq (l : List BranchT) (h : List EventT) (hl : l.length ≤ 1000) (hs : smallB l) (hh : h.length ≤ 1000) : spec_l15Add l h = some (addS l h) := by
  unfold spec_l15Add addS
  have key := find_loop (step := spec_l15Add_L1 l h) (fun i => (⟨i⟩ : spec_l15Add_G1)) l.length (fun i => begB h (nth l i).Events) (fun _ => (.inl () : Unit ⊕ Unit)) (.inr ()) (fun i hi hv => ?_) ?_
  · have e : loopF (spec_l15Add_L1 l h) ⟨0⟩ = some (if (l.any fun b => begB h b.Events) = true then .inl () else .inr ()) := by
      rw [key]
      have := findN_any l fun b => begB h b.Events
      cases hf : findN (fun i => begB h (nth l i).Events) l.length with
      | none => rw [hf] at this; rw [← this]; rfl
      | some k => rw [hf] at this; rw [← this]; rfl
    rw [e]
    simp only [Option.bind_some]
    cases l.any fun b => begB h b.Events
    · simp only [Bool.false_eq_true,if_false]
      obtain ⟨p',c',g1,g2,g3⟩ := add_loop l h hl hs hh l 0 false [] rfl (by omega) (by simp)
      have e0 : ((0 : Nat) : Int) = 0 := rfl
      rw [e0] at g1
      rw [g1]
      simp only [Option.bind_some,ownEv_eq _ hh]
      rw [List.nil_append] at g2
      rw [← g2]
      cases p'
      · rw [if_pos (by rfl),guard_pos (by omega)]; rfl
      · rfl
    · rfl
  · unfold spec_l15Add_L1
    have hi' : i < l.length := hi
    have hbs := hs i hi'
    have e1 : wI ((i : Int) + 1) = ((i + 1 : Nat) : Int) := by rw [wI_id (by omega)]; omega
    simp only [Int.toNat_natCast,e1]
    rw [if_pos (by rw [decide_eq_true_eq]; omega),guard_pos (by omega),spec_l15Begins_eq _ _ (by omega) (by omega)]
    simp only [Option.bind_some]
    cases begB h (nth l i).Events <;> rfl
  · unfold spec_l15Add_L1
    dsimp only
    rw [if_neg (by simp)]
theorem spec_l15Own_eq (t : TellingsT) (hl : t.Branches.length ≤ 1000) (hs : smallB t.Branches) : spec_l15Own t = some t := by
  unfold spec_l15Own
  have key := accL_loop (step := spec_l15Own_L1 t) (fun i c => (⟨i,c⟩ : spec_l15Own_G1)) t.Branches.length (fun i => t.Branches.take i) (fun c => (⟨c⟩ : spec_l15Own_P1_0)) (fun i hi => ?_) ?_
  · simp only [List.take_zero,List.take_length] at key
    rw [key]; rfl
  · have ht : (t.Branches.take i).length = i := by rw [List.length_take]; omega
    have e1 : wI ((i : Int) + 1) = ((i + 1 : Nat) : Int) := by rw [wI_id (by omega)]; omega
    unfold spec_l15Own_L1
    simp only [Int.toNat_natCast,e1,← take_snoc hi]
    rw [if_pos (by rw [decide_eq_true_eq]; omega),guard_pos (by omega),ownEv_eq _ (hs i hi)]
    simp only [Option.bind_some]
    rw [guard_pos (by omega)]
  · unfold spec_l15Own_L1
    dsimp only
    rw [if_neg (by simp)]
theorem putB_len (h : List EventT) (l : List BranchT) : (putB h l false).length ≤ l.length + 1 := by
  have h1 := (putB_perm h l).length_eq
  have h2 := List.length_filter_le (fun b : BranchT => !begB b.Events h) l
  unfold leaves at h1
  rw [List.length_append,List.length_singleton] at h1
  omega
theorem addS_len (l : List BranchT) (h : List EventT) : (addS l h).length ≤ l.length + 1 := by
  unfold addS
  split
  · omega
  · exact putB_len h l
theorem addS_mem {l : List BranchT} {h : List EventT} {b : BranchT} (hb : b ∈ addS l h) : b ∈ l ∨ b = ⟨h⟩ := by
  unfold addS at hb
  split at hb
  · exact .inl hb
  · rcases List.mem_append.1 ((putB_perm h l).mem_iff.1 hb) with e | e
    · exact .inl (List.mem_filter.1 e).1
    · exact .inr (List.mem_singleton.1 e)
theorem begB_ge {x y : List EventT} (h : begB y x = true) : 0 ≤ (cmpL x y).1 := by
  unfold begB at h
  rw [decide_eq_true_eq,cmpL_snd] at h
  cases hf : firstD x y with
  | some i =>
    rw [hf] at h
    unfold firstD at hf
    have := (findN_lt hf).1
    simp only at h
    omega
  | none =>
    rw [hf] at h
    simp only at h
    unfold cmpL
    rw [hf]
    simp only
    rw [if_neg (by omega)]
    split <;> simp
theorem begB_self {h : List EventT} (hh : histP h = true) : begB h h = true := (begB_iff hh hh).2 ⟨Nat.le_refl _,fun _ _ => rfl⟩
theorem not_same {b h : List EventT} (hb : histP b = true) (hh : histP h = true) (hn : begB b h = false) : (cmpL b h).1 ≠ 0 := fun e => by
  have := (evs_same hb hh).1 e
  rw [this,begB_self hh] at hn
  cases hn
theorem goodT_iff (l : List BranchT) : goodT ⟨l⟩ = true ↔ l.length ≤ 12 ∧ (∀ b ∈ l,tellP b.Events = true) ∧ l.Pairwise fun a b => brL a b = true ∧ begB a.Events b.Events = false := by
  unfold goodT
  simp only [Bool.and_eq_true,decide_eq_true_eq,allN_iff,Bool.not_eq_true']
  constructor
  · rintro ⟨h1,h2⟩
    refine ⟨h1,fun b hb => ?_,?_⟩
    · obtain ⟨i,hi,rfl⟩ := List.getElem_of_mem hb
      have := (h2 i hi).1
      rwa [nth_eq hi] at this
    · rw [List.pairwise_iff_getElem]
      intro k i hk hi hki
      have := (h2 i hi).2 k hki
      rw [nth_eq hk,nth_eq hi] at this
      exact ⟨brL_iff.2 this.1,this.2⟩
  · rintro ⟨h1,h2,h3⟩
    refine ⟨h1,fun i hi => ⟨?_,fun k hk => ?_⟩⟩
    · rw [nth_eq hi]; exact h2 _ (List.getElem_mem _)
    · have := List.pairwise_iff_getElem.1 h3 k i (by omega) hi hk
      rw [nth_eq (show k < l.length by omega),nth_eq hi]
      exact ⟨brL_iff.1 this.1,this.2⟩
/-- Branches of histories,rising,none a beginning of another; their number aside. -/
def risT (l : List BranchT) : Prop := (∀ b ∈ l,tellP b.Events = true) ∧ l.Pairwise fun a b => brL a b = true ∧ begB a.Events b.Events = false
theorem ris_good {l : List BranchT} (h : risT l) : goodT ⟨l⟩ = decide (l.length ≤ 12) := by
  by_cases h1 : l.length ≤ 12
  · rw [(goodT_iff l).2 ⟨h1,h⟩]; simp [h1]
  · cases hg : goodT ⟨l⟩
    · simp [h1]
    · exact absurd ((goodT_iff l).1 hg).1 h1
theorem add_ris {l : List BranchT} {h : List EventT} (hl : risT l) (hh : tellP h = true) : risT (addS l h) := by
  unfold addS
  split
  · exact hl
  · rename_i ha
    have hno : ∀ b ∈ l,begB h b.Events = false := fun b hb => by
      cases e : begB h b.Events
      · rfl
      · exact absurd (List.any_eq_true.2 ⟨b,hb,e⟩) ha
    refine ⟨fun b hb => ?_,?_⟩
    · rcases List.mem_append.1 ((putB_perm h l).mem_iff.1 hb) with e | e
      · exact hl.1 b (List.mem_filter.1 e).1
      · rw [List.mem_singleton.1 e]; exact hh
    · have hasc := putB_asc h l (hl.2.imp fun h => h.1) fun b hb hn => not_same (tell_hist (hl.1 b hb)) (tell_hist hh) hn
      have hS : l.Pairwise fun a b => begB a.Events b.Events = false ∧ begB b.Events a.Events = false := hl.2.imp fun {a b} ⟨h1,h2⟩ => ⟨h2,by
        cases e : begB b.Events a.Events
        · rfl
        · have := begB_ge e
          have := brL_iff.1 h1
          omega⟩
      have hS2 : (leaves h l ++ [(⟨h⟩ : BranchT)]).Pairwise fun a b => begB a.Events b.Events = false ∧ begB b.Events a.Events = false := by
        rw [List.pairwise_append]
        refine ⟨hS.filter _,by simp,fun a ha b hb => ?_⟩
        rw [List.mem_singleton.1 hb]
        have ha' := List.mem_filter.1 ha
        exact ⟨by simpa using ha'.2,hno a ha'.1⟩
      have hS3 := ((putB_perm h l).pairwise_iff (R := fun a b : BranchT => begB a.Events b.Events = false ∧ begB b.Events a.Events = false) fun h => ⟨h.2,h.1⟩).2 hS2
      exact (hasc.and hS3).imp fun ⟨a,b⟩ => ⟨a,b.1⟩
theorem goodT_ris {t : TellingsT} (h : goodT t = true) : risT t.Branches := ((goodT_iff t.Branches).1 h).2
theorem add_ok {l : List BranchT} {h : List EventT} (hl : ok_LBranch l) (hn : l.length ≤ 1000) (hh : ok_LEvent h) : ok_Tellings ⟨addS l h⟩ := by
  refine ⟨by have := addS_len l h; show (addS l h).length ≤ _; omega,fun y hy => ?_⟩
  rcases addS_mem hy with e | e
  · exact hl.2 y e
  · rw [e]; exact hh
end Go.TL
set_option linter.unusedVariables false
set_option linter.unusedSimpArgs false
set_option maxRecDepth 4000
namespace Go.TL
/-- Branches of any number that are no longer than histories may be. -/
def midT (l : List BranchT) : Prop := l.length ≤ 1000 ∧ smallB l
theorem mid_small {t : TellingsT} (h : smallT t) : midT t.Branches := ⟨by have := h.1; omega,fun i hi => by have := h.2 i hi; omega⟩
theorem ris_mid {l : List BranchT} (h : risT l) (hl : l.length ≤ 1000) : midT l := ⟨hl,fun i hi => by
  have := hist_len (tell_hist (h.1 (nth l i) (by rw [nth_eq hi]; exact List.getElem_mem _)))
  omega⟩
theorem cloneMid_eq (t : TellingsT) (h : midT t.Branches) : impl_cloneTellings t = some t := by
  unfold impl_cloneTellings
  have key := accL_loop (step := impl_cloneTellings_L1 t) (fun i c => (⟨i,c⟩ : impl_cloneTellings_G1)) t.Branches.length (fun i => t.Branches.take i) (fun c => (⟨c⟩ : impl_cloneTellings_P1_0)) (fun i hi => ?_) ?_
  · simp only [List.take_zero,List.take_length] at key
    rw [key]; rfl
  · have hl := h.1
    have he := h.2 i hi
    have ht : (t.Branches.take i).length = i := by rw [List.length_take]; omega
    have e1 : wI ((i : Int) + 1) = ((i + 1 : Nat) : Int) := by rw [wI_id (by omega)]; omega
    unfold impl_cloneTellings_L1 slices_Clone_impl_Event
    simp only [Int.toNat_natCast,e1,← take_snoc hi]
    rw [if_pos (by rw [decide_eq_true_eq]; omega),guard_pos (by omega),guard_pos (by omega)]
    simp only [Option.bind_some]
    rw [guard_pos (by rw [ht]; omega)]
  · unfold impl_cloneTellings_L1
    dsimp only
    rw [if_neg (by simp)]
theorem hasFunc_eq (l : List BranchT) (h : List EventT) (hl : l.length ≤ 1000) (hb : ∀ b ∈ l,tellP b.Events = true) (hh : tellP h = true) :
    slices_ContainsFunc_impl_Branch_impl_added_c1r l h = some (l.any fun b => begB h b.Events) := by
  unfold slices_ContainsFunc_impl_Branch_impl_added_c1r slices_IndexFunc_impl_Branch_impl_added_c1r
  have key := find_loop (step := slices_IndexFunc_impl_Branch_impl_added_c1r_L1 l h) (fun i => (⟨i⟩ : slices_IndexFunc_impl_Branch_impl_added_c1r_G1)) l.length (fun i => begB h (nth l i).Events)
    (fun i => (.inl ⟨i⟩ : slices_IndexFunc_impl_Branch_impl_added_c1r_P1_0 ⊕ Unit)) (.inr ()) (fun i hi hv => ?_) ?_
  · rw [key]
    have := findN_any l fun b => begB h b.Events
    cases hf : findN (fun i => begB h (nth l i).Events) l.length with
    | none => rw [hf] at this; rw [← this]; rfl
    | some k =>
      rw [hf] at this
      rw [← this]
      simp
  · unfold slices_IndexFunc_impl_Branch_impl_added_c1r_L1 impl_added_c1_r
    have hi' : i < l.length := hi
    have hbi := hb (nth l i) (by rw [nth_eq hi']; exact List.getElem_mem _)
    have e1 : wI ((i : Int) + 1) = ((i + 1 : Nat) : Int) := by rw [wI_id (by omega)]; omega
    simp only [Int.toNat_natCast,e1]
    rw [if_pos (by rw [decide_eq_true_eq]; omega),guard_pos (by omega),impl_begins_eq _ _ (tell_hist hh) (tell_hist hbi)]
    simp only [Option.bind_some]
    cases begB h (nth l i).Events <;> rfl
  · unfold slices_IndexFunc_impl_Branch_impl_added_c1r_L1
    dsimp only
    rw [if_neg (by simp)]
theorem impl_added_eq (t : TellingsT) (h : List EventT) (ht : risT t.Branches) (hl : t.Branches.length ≤ 900) (hh : tellP h = true) : impl_added t h = some ⟨addS t.Branches h⟩ := by
  have hm := ris_mid ht (by omega)
  have hhl := hist_len (tell_hist hh)
  unfold impl_added
  rw [cloneMid_eq _ hm]
  simp only [Option.bind_some]
  rw [hasFunc_eq _ _ hm.1 ht.1 hh]
  simp only [Option.bind_some]
  unfold addS
  cases ha : t.Branches.any fun b => begB h b.Events
  rotate_left
  · rfl
  simp only [Bool.false_eq_true,if_false]
  have hc : ∀ b ∈ t.Branches,impl_added_c2_r b h = some (begB b.Events h) := fun b hb => by
    unfold impl_added_c2_r
    rw [impl_begins_eq _ _ (tell_hist (ht.1 b hb)) (tell_hist hh)]
    rfl
  have e1 : slices_DeleteFunc_impl_Branch_deep t.Branches h = some (leaves h t.Branches) := by
    unfold slices_DeleteFunc_impl_Branch_deep leaves
    have hal : (t.Branches.all fun b => (impl_added_c2_r b h).isSome) = true := by
      rw [List.all_eq_true]
      intro b hb
      rw [hc b hb]
      rfl
    rw [guard_pos ⟨by omega,hal⟩]
    refine congrArg some (List.filter_congr fun b hb => ?_)
    rw [hc b hb]
    rfl
  rw [e1]
  simp only [Option.bind_some]
  have hll := List.length_filter_le (fun b : BranchT => !begB b.Events h) t.Branches
  change (leaves h t.Branches).length ≤ _ at hll
  unfold slices_Clone_impl_Event
  rw [guard_pos (by omega)]
  simp only [Option.bind_some]
  rw [guard_pos (by omega)]
  have hno : ∀ b ∈ t.Branches,begB h b.Events = false := fun b hb => by
    cases e : begB h b.Events
    · rfl
    · have : (t.Branches.any fun b => begB h b.Events) = true := List.any_eq_true.2 ⟨b,hb,e⟩
      rw [this] at ha; cases ha
  have hne : ∀ b ∈ t.Branches,begB b.Events h = false → (cmpL b.Events h).1 ≠ 0 := fun b hb hn => not_same (tell_hist (ht.1 b hb)) (tell_hist hh) hn
  have hlt : t.Branches.Pairwise fun a b => brL a b = true := ht.2.imp fun h => h.1
  have hapt : aptO brL (leaves h t.Branches ++ [(⟨h⟩ : BranchT)]) = true := by
    refine aptO_iff.2 ?_
    have h1 := putB_asc h t.Branches hlt hne
    exact ((putB_perm h t.Branches).pairwise_iff (R := fun a b : BranchT => brL a b = true ∨ brL b a = true) fun h => h.symm).1 (h1.imp fun h => .inl h)
  have e2 : slices_SortFunc_impl_Branch_deep (leaves h t.Branches ++ [(⟨h⟩ : BranchT)]) = some (putB h t.Branches false) := by
    unfold slices_SortFunc_impl_Branch_deep
    have hal : ((leaves h t.Branches ++ [(⟨h⟩ : BranchT)]).all fun b => decide (b.Events.length ≤ 1000)) = true := by
      rw [List.all_eq_true]
      intro b hb
      rw [decide_eq_true_eq]
      rcases List.mem_append.1 hb with e | e
      · have := hist_len (tell_hist (ht.1 b (List.mem_filter.1 e).1))
        omega
      · rw [List.mem_singleton.1 e]
        show h.length ≤ 1000
        omega
    rw [guard_pos ⟨by simp only [List.length_append,List.length_singleton]; omega,hal,hapt⟩]
    refine congrArg some (putB_sort h t.Branches hlt hne (sortO_perm brL _) ?_)
    refine (sortO_asc brL_trans hapt).imp fun {a b} hab => ?_
    cases e : brL b a
    · rfl
    · have := brL_trans _ _ _ hab e
      rw [brL_irr] at this
      cases this
  rw [e2]
  simp only [Option.bind_some]
  rw [guard_pos (by have := (putB_perm h t.Branches).length_eq; simp only [List.length_append,List.length_singleton] at this; exact this)]
theorem goodT_n {t : TellingsT} (h : goodT t = true) : t.Branches.length ≤ 12 ∧ nBrs t.Branches ≤ 4000 := by
  have h12 := goodT_len h
  refine ⟨h12,?_⟩
  have : totw wBranch t.Branches ≤ 250 * t.Branches.length := totw_bound fun b hb => by
    obtain ⟨i,hi,rfl⟩ := List.getElem_of_mem hb
    have := hist_len (tell_hist (goodT_tell h hi))
    rw [nth_eq hi] at this
    unfold wBranch
    omega
  unfold nBrs
  omega
/-! ### Tellings put together -/
def mrgS (l : List BranchT) (m : List BranchT) : List BranchT := m.foldl (fun l x => addS l x.Events) l
theorem mrg_ris : ∀ {m l : List BranchT},risT l → (∀ x ∈ m,tellP x.Events = true) → risT (mrgS l m)
  | [],l,h,_ => h
  | x :: m,l,h,hm => mrg_ris (m := m) (l := addS l x.Events) (add_ris h (hm x (by simp))) fun y hy => hm y (List.mem_cons_of_mem _ hy)
theorem mrg_len : ∀ (m l : List BranchT),(mrgS l m).length ≤ l.length + m.length
  | [],l => by simp [mrgS]
  | x :: m,l => by
    have := mrg_len m (addS l x.Events)
    have := addS_len l x.Events
    show (mrgS (addS l x.Events) m).length ≤ _
    simp only [List.length_cons]
    omega
theorem mrg_ok {m l : List BranchT} (hl : ok_LBranch l) (hm : ok_LBranch m) (h : l.length + m.length ≤ 1000) : ok_LBranch (mrgS l m) := by
  induction m generalizing l with
  | nil => exact hl
  | cons x m ih =>
    simp only [List.length_cons] at h
    have h1 := hm.2 x (by simp)
    refine ih (l := addS l x.Events) (add_ok hl (by omega) h1) ⟨by omega,fun y hy => hm.2 y (List.mem_cons_of_mem _ hy)⟩ ?_
    have := addS_len l x.Events
    omega
theorem mrg_take {l m : List BranchT} {i : Nat} (h : i < m.length) : mrgS l (m.take (i + 1)) = addS (mrgS l (m.take i)) (nth m i).Events := by
  rw [← take_snoc h]
  unfold mrgS
  rw [List.foldl_append]
  rfl
theorem spec_l15Merge_eq (a b : TellingsT) (ha : risT a.Branches) (hb : ∀ x ∈ b.Branches,tellP x.Events = true) (hl : a.Branches.length + b.Branches.length ≤ 900) : spec_l15Merge a b = some ⟨mrgS a.Branches b.Branches⟩ := by
  have hsm : ∀ i,risT (mrgS a.Branches (b.Branches.take i)) ∧ (mrgS a.Branches (b.Branches.take i)).length ≤ 900 := fun i => by
    refine ⟨mrg_ris ha fun x hx => hb x (List.mem_of_mem_take hx),?_⟩
    have := mrg_len (b.Branches.take i) a.Branches
    have : (b.Branches.take i).length ≤ b.Branches.length := by rw [List.length_take]; omega
    omega
  unfold spec_l15Merge
  have key := accL_loop (step := spec_l15Merge_L1 b) (fun i c => (⟨c,i⟩ : spec_l15Merge_G1)) b.Branches.length (fun i => mrgS a.Branches (b.Branches.take i)) (fun c => (⟨c⟩ : spec_l15Merge_P1_0)) (fun i hi => ?_) ?_
  · have e0 : mrgS a.Branches (b.Branches.take 0) = a.Branches := rfl
    rw [e0,List.take_length] at key
    rw [key]
    simp only [Option.bind_some]
    have h2 := hsm b.Branches.length
    rw [List.take_length] at h2
    have h3 := ris_mid h2.1 (by omega)
    rw [spec_l15Own_eq ⟨mrgS a.Branches b.Branches⟩ h3.1 h3.2]
    rfl
  · have h2 := hsm i
    have h3 := ris_mid h2.1 (by omega)
    have h4 := hist_len (tell_hist (hb (nth b.Branches i) (by rw [nth_eq hi]; exact List.getElem_mem _)))
    have e1 : wI ((i : Int) + 1) = ((i + 1 : Nat) : Int) := by rw [wI_id (by omega)]; omega
    unfold spec_l15Merge_L1
    simp only [Int.toNat_natCast,e1,mrg_take hi]
    rw [if_pos (by rw [decide_eq_true_eq]; omega),guard_pos (by omega),spec_l15Add_eq _ _ h3.1 h3.2 (by omega)]
    rfl
  · unfold spec_l15Merge_L1
    dsimp only
    rw [if_neg (by simp)]
def mrgD (a b : TellingsT) : TellingsT × Bool := if (goodT a && goodT b && decide ((mrgS a.Branches b.Branches).length ≤ 12)) = true then (⟨mrgS a.Branches b.Branches⟩,true) else (⟨[]⟩,false)
theorem spec_MergeTellings_eq (a b : TellingsT) (ha : ok_Tellings a) (hb : ok_Tellings b) : spec_MergeTellings a b = some (mrgD a b) := by
  unfold spec_MergeTellings mrgD
  rw [spec_GoodTellings_eq _ ha]
  simp only [Option.bind_some]
  cases hg : goodT a
  · simp
  rw [spec_GoodTellings_eq _ hb]
  simp only [Option.bind_some]
  cases hg2 : goodT b
  · simp
  have h1 := goodT_len hg
  have h2 := goodT_len hg2
  have hr := mrg_ris (goodT_ris hg) (goodT_ris hg2).1
  simp only [Bool.not_true,Bool.false_eq_true,if_false,Option.bind_some]
  rw [spec_l15Merge_eq _ _ (goodT_ris hg) (goodT_ris hg2).1 (by omega)]
  simp only [Option.bind_some]
  rw [spec_GoodTellings_eq ⟨mrgS a.Branches b.Branches⟩ (mrg_ok ha hb (by omega)),ris_good hr]
  simp only [Option.bind_some,Bool.true_and]
  by_cases hc : (mrgS a.Branches b.Branches).length ≤ 12
  · simp [hc]
  · simp [hc]
theorem impl_MergeTellings_eq (a b : TellingsT) (ha : ok_Tellings a) (hb : ok_Tellings b) : impl_MergeTellings a b = some (mrgD a b) := by
  unfold impl_MergeTellings mrgD
  rw [impl_GoodTellings_eq _ ha]
  simp only [Option.bind_some]
  cases hg : goodT a
  · simp
  rw [impl_GoodTellings_eq _ hb]
  simp only [Option.bind_some]
  cases hg2 : goodT b
  · simp
  have h1 := goodT_len hg
  have h2 := goodT_len hg2
  have hr := mrg_ris (goodT_ris hg) (goodT_ris hg2).1
  simp only [Bool.not_true,Bool.false_eq_true,if_false,Option.bind_some]
  rw [cloneMid_eq _ (mid_small (goodT_small hg))]
  simp only [Option.bind_some]
  have key := accL_loop (step := impl_MergeTellings_L1 b) (fun i c => (⟨i,c⟩ : impl_MergeTellings_G1)) b.Branches.length (fun i => mrgS a.Branches (b.Branches.take i)) (fun c => (⟨c⟩ : impl_MergeTellings_P1_0)) (fun i hi => ?_) ?_
  · have e0 : mrgS a.Branches (b.Branches.take 0) = a.Branches := rfl
    rw [e0,List.take_length] at key
    rw [key]
    simp only [Option.bind_some,Bool.true_and]
    by_cases hc : (mrgS a.Branches b.Branches).length ≤ 12
    · rw [if_neg (by simp; omega),if_pos (by simpa using hc)]
    · rw [if_pos (by simp; omega),if_neg (by simpa using hc)]
  · have h3 := mrg_ris (goodT_ris hg) (m := b.Branches.take i) fun x hx => (goodT_ris hg2).1 x (List.mem_of_mem_take hx)
    have h4 := mrg_len (b.Branches.take i) a.Branches
    have h5 : (b.Branches.take i).length ≤ b.Branches.length := by rw [List.length_take]; omega
    have e1 : wI ((i : Int) + 1) = ((i + 1 : Nat) : Int) := by rw [wI_id (by omega)]; omega
    unfold impl_MergeTellings_L1
    simp only [Int.toNat_natCast,e1,mrg_take hi]
    rw [if_pos (by rw [decide_eq_true_eq]; omega),guard_pos (by omega),impl_added_eq ⟨mrgS a.Branches (b.Branches.take i)⟩ _ h3 (by simp only; omega) (goodT_tell hg2 hi)]
    rfl
  · unfold impl_MergeTellings_L1
    dsimp only
    rw [if_neg (by simp)]
/-! ### A word heard -/
def hearD (r : RegionT) (w : WordT) : RegionT × Bool := if (goodR r && goodR ⟨0,w.Version,w.Tellings⟩ && decide ((mrgS r.Tellings.Branches w.Tellings.Branches).length ≤ 12)) = true then (⟨r.Id,max r.Version w.Version,⟨mrgS r.Tellings.Branches w.Tellings.Branches⟩⟩,true) else (⟨0,0,⟨[]⟩⟩,false)
theorem spec_HearWord_eq (r : RegionT) (w : WordT) (hr : ok_Region r) (hw : ok_Word w) : spec_HearWord r w = some (hearD r w) := by
  unfold spec_HearWord hearD
  rw [spec_GoodRegion_eq _ hr]
  simp only [Option.bind_some]
  cases hg : goodR r
  · simp
  rw [spec_GoodRegion_eq _ (show ok_Region ⟨0,w.Version,w.Tellings⟩ from ⟨by unfold ok_I; simp only; omega,hw.1,hw.2⟩)]
  simp only [Option.bind_some]
  cases hg2 : goodR ⟨0,w.Version,w.Tellings⟩
  · simp
  have g1 := goodR_tell hg
  have g2 := goodR_tell hg2
  simp only [Bool.not_true,Bool.false_eq_true,if_false,Option.bind_some]
  rw [spec_MergeTellings_eq _ _ hr.2.2 hw.2]
  simp only [Option.bind_some]
  unfold mrgD
  rw [g1,show goodT w.Tellings = true from g2]
  simp only [Bool.true_and]
  by_cases hc : (mrgS r.Tellings.Branches w.Tellings.Branches).length ≤ 12
  · simp only [hc,decide_true,if_true,Bool.not_true,Bool.false_eq_true,if_false]
    by_cases hv : w.Version > r.Version
    · simp only [hv,decide_true,if_true,Option.bind_some]
      rw [Int.max_eq_right (by omega)]
    · simp only [hv,decide_false,Bool.false_eq_true,if_false,Option.bind_some]
      rw [Int.max_eq_left (by omega)]
  · simp [hc]
theorem impl_HearWord_eq (r : RegionT) (w : WordT) (hr : ok_Region r) (hw : ok_Word w) : impl_HearWord r w = some (hearD r w) := by
  unfold impl_HearWord hearD impl_cloneRegion impl_Region_hear_od
  rw [impl_GoodRegion_eq _ hr]
  simp only [Option.bind_some]
  cases hg : goodR r
  · simp
  rw [goodR_zero]
  simp only [Bool.not_true,Bool.false_eq_true,if_false]
  rw [impl_wordOk_eq _ _ hw.2]
  simp only [Option.bind_some]
  cases hg2 : wordP w.Version w.Tellings
  · simp
  have g1 := goodR_tell hg
  have g2 : goodT w.Tellings = true := by
    unfold wordP at hg2
    simp only [Bool.and_eq_true] at hg2
    exact hg2.1.2
  simp only [Bool.not_true,Bool.false_eq_true,if_false]
  rw [cloneMid_eq _ (mid_small (goodT_small g1))]
  simp only [Option.bind_some]
  rw [impl_MergeTellings_eq _ _ hr.2.2 hw.2]
  simp only [Option.bind_some]
  unfold mrgD
  rw [g1,g2]
  simp only [Bool.true_and]
  by_cases hc : (mrgS r.Tellings.Branches w.Tellings.Branches).length ≤ 12
  · simp [hc]
  · simp [hc]
theorem hearD_lk {r : RegionT} {w : WordT} (hr : ok_Region r) (hw : ok_Word w) : lk_Region (hearD r w).1 := by
  unfold hearD
  split
  · rename_i hc
    simp only [Bool.and_eq_true,decide_eq_true_eq] at hc
    have := goodT_len (goodR_tell hc.1.1)
    have := goodT_len (goodR_tell hc.1.2)
    exact ⟨trivial,trivial,lk_of_Tellings (mrg_ok hr.2.2 hw.2 (by simp only at *; omega))⟩
  · exact ⟨trivial,trivial,lk_nil⟩
theorem hearD_n (r : RegionT) (w : WordT) : (hearD r w).1.Tellings.Branches.length ≤ 12 ∧ nBrs (hearD r w).1.Tellings.Branches ≤ 4000 := by
  unfold hearD
  split
  · rename_i hc
    simp only [Bool.and_eq_true,decide_eq_true_eq] at hc
    refine goodT_n (t := ⟨mrgS r.Tellings.Branches w.Tellings.Branches⟩) ?_
    rw [ris_good (mrg_ris (goodT_ris (goodR_tell hc.1.1)) (goodT_ris (goodR_tell hc.1.2)).1)]
    simpa using hc.2
  · simp [nBrs_nil]
theorem hear_holds (r : RegionT) (w : WordT) (hr : ok_Region r) (hw : ok_Word w) : laws_FnExactHearWord r w = some true := by
  unfold laws_FnExactHearWord
  rw [laws_szRegion_eq _ _ hr (by omega) (by omega)]
  simp only [Option.bind_some]
  by_cases h1 : (siz_Region r : Int) ≤ 1048576
  rotate_left
  · rw [if_pos (decide_eq_true (szr_no h1))]
  have hz : siz_Tellings r.Tellings ≤ 1048576 := by unfold siz_Region at h1; omega
  obtain ⟨z1,z2⟩ := tell_size hz
  rw [if_neg (by simpa using szr_ok h1),szr_ok' h1,laws_szWord_eq _ _ hw (by omega) (by omega)]
  simp only [Option.bind_some]
  by_cases h2 : (siz_Word w : Int) ≤ 1048576 - (siz_Region r : Int)
  rotate_left
  · rw [if_pos (decide_eq_true (szr_no h2))]
  have hz' : siz_Tellings w.Tellings ≤ 1048576 := by unfold siz_Word at h2; omega
  obtain ⟨z5,z6⟩ := tell_size hz'
  rw [if_neg (by simpa using szr_ok h2),laws_toRegion_eq _ (by omega),laws_toWord_eq _ (by omega)]
  simp only [Option.bind_some]
  obtain ⟨z3,z4⟩ := hearD_n r w
  rw [spec_HearWord_eq _ _ hr hw,impl_HearWord_eq _ _ hr hw]
  simp only [Option.bind_some]
  rw [laws_eqRegion_eq _ _ (hearD_lk hr hw),laws_eqRegion_eq _ _ (lk_of_Region hr),laws_eqWord_eq _ _ (lk_of_Word hw)]
  simp only [Option.bind_some,decide_true,Bool.not_true,beq_self_eq_true,Bool.false_eq_true,if_false]
  rw [mark_Region_eq r 1 (by omega) (by omega) (by omega),mark_Region_eq (hearD r w).1 1 (by omega) (by omega) (by omega)]
  simp only [Option.bind_some]
  rw [guard_pos (mseq_len ..),mark_Word_eq w _ (by omega) (by omega) (by omega)]
  simp only [Option.bind_some]
  rw [guard_pos (mseq_len ..),if_neg (by simp; omega)]
  simp only [Option.bind_some,Bool.false_eq_true,if_false]
  rw [guard_pos (mseq_len ..),held_Region_eq _ _ _ 1 (by omega) (by omega) (by omega)]
  simp only [Option.bind_some]
  rw [if_neg (by simp; omega),if_neg (by simp),if_neg (by simp; omega),if_neg (by simp)]
end Go.TL

import Derived.Test.YtjkeoippmlmfbaaGreatDoorG29PpOrd
import Derived.Test.YtjkeoippmlmfbaaGreatDoorG30PlR5C
import Derived.Test.YtjkeoippmlmfbaaGreatDoorG28PpDeep
import Derived.Test.YtjkeoippmlmfbaaGreatDoorG45PpMerge
set_option linter.unusedSimpArgs false
set_option linter.unusedVariables false
set_option linter.unusedVariables false
set_option linter.unusedSimpArgs false
set_option maxRecDepth 4000
namespace Go.TL
def smallB (l : List BranchT) : Prop := ∀ i,i < l.length → (nth l i).Events.length ≤ 1000
theorem ownEv_eq (l : List EventT) (h : l.length ≤ 1000) : spec_l15OwnEvents l = some l := by
  unfold spec_l15OwnEvents
  rw [guard_pos (by omega),List.nil_append]
theorem add_loop (l : List BranchT) (h : List EventT) (hl : l.length ≤ 1000) (hs : smallB l) (hh : h.length ≤ 1000) : ∀ (r : List BranchT) (i : Nat) (put : Bool) (c : List BranchT),l.drop i = r → i ≤ l.length → c.length ≤ 2 * i →
    ∃ put' c',loopF (spec_l15Add_L2 l h) ⟨put,(i : Int),c⟩ = some ⟨put',c'⟩ ∧ (if put' = true then c' else c' ++ [⟨h⟩]) = c ++ putB h r put ∧ c'.length ≤ 2 * l.length := by
  intro r
  induction r with
  | nil =>
    intro i put c hd hi hc
    have e := drop_nil hd hi
    refine ⟨put,c,loop_out ?_,?_,by omega⟩
    · unfold spec_l15Add_L2
      dsimp only
      rw [if_neg (by rw [decide_eq_true_eq]; omega)]
    · unfold putB
      cases put <;> simp
  | cons b r ih =>
    intro i put c hd hi hc
    obtain ⟨hlt,hb,hr⟩ := drop_cons hd
    have hbs : b.Events.length ≤ 1000 := by rw [← hb]; exact hs i hlt
    have e1 : wI ((i : Int) + 1) = ((i + 1 : Nat) : Int) := by rw [wI_id (by omega)]; omega
    have ebb : (⟨b.Events⟩ : BranchT) = b := rfl
    have hstep : spec_l15Add_L2 l h ⟨put,(i : Int),c⟩ = some (.inl (if begB b.Events h = true then ⟨put,((i + 1 : Nat) : Int),c⟩ else if ((cmpL b.Events h).1 > 0 ∧ put = false) then ⟨true,((i + 1 : Nat) : Int),(c ++ [⟨h⟩]) ++ [b]⟩ else ⟨put,((i + 1 : Nat) : Int),c ++ [b]⟩)) := by
      unfold spec_l15Add_L2
      simp only [Int.toNat_natCast,hb,e1]
      rw [if_pos (by rw [decide_eq_true_eq]; omega),guard_pos (by omega),spec_l15Begins_eq _ _ (by omega) (by omega)]
      simp only [Option.bind_some]
      cases hbg : begB b.Events h
      · rw [if_neg (by simp),if_neg (by simp),spec_l15Compare_eq _ _ (by omega) (by omega)]
        simp only [Option.bind_some,ownEv_eq _ hh,ownEv_eq _ hbs,ebb]
        by_cases hc1 : (cmpL b.Events h).1 > 0
        · rw [if_pos (decide_eq_true hc1)]
          cases put
          · simp only [Option.bind_some,Bool.not_false,if_true]
            rw [guard_pos (by omega),guard_pos (by omega),if_pos ⟨hc1,trivial⟩]
          · simp only [Option.bind_some,Bool.not_true,Bool.false_eq_true,if_false]
            rw [guard_pos (by omega),if_neg (by simp)]
        · rw [if_neg (by simpa using hc1)]
          simp only [Option.bind_some,Bool.false_eq_true,if_false]
          rw [guard_pos (by omega),if_neg (fun h => hc1 h.1)]
      · rw [if_pos rfl,if_pos rfl]
    rw [loop_on hstep]
    unfold putB
    by_cases hbg : begB b.Events h = true
    · rw [if_pos hbg,if_pos hbg]
      exact ih (i + 1) put c hr (by omega) (by omega)
    · rw [if_neg hbg,if_neg hbg]
      by_cases hc1 : (cmpL b.Events h).1 > 0 ∧ put = false
      · rw [if_pos hc1,if_pos hc1]
        obtain ⟨p',c',g1,g2,g3⟩ := ih (i + 1) true ((c ++ [⟨h⟩]) ++ [b]) hr (by omega) (by simp only [List.length_append,List.length_singleton]; omega)
        exact ⟨p',c',g1,by rw [g2]; simp,g3⟩
      · rw [if_neg hc1,if_neg hc1]
        obtain ⟨p',c',g1,g2,g3⟩ := ih (i + 1) put (c ++ [b]) hr (by omega) (by simp only [List.length_append,List.length_singleton]; omega)
        exact ⟨p',c',g1,by rw [g2]; simp,g3⟩
def addS (l : List BranchT) (h : List EventT) : List BranchT := if (l.any fun b => begB h b.Events) = true then l else putB h l false
theorem spec_l15Add_eq (l : List BranchT) (h : List EventT) (hl : l.length ≤ 1000) (hs : smallB l) (hh : h.length ≤ 1000) : spec_l15Add l h = some (addS l h) := by
  unfold spec_l15Add addS
  have key := find_loop (step := spec_l15Add_L1 l h) (fun i => (⟨i⟩ : spec_l15Add_G1)) l.length (fun i => begB h (nth l i).Events) (fun _ => (.inl () : Unit ⊕ Unit)) (.inr ()) (fun i hi hv => ?_) ?_
  · have e : loopF (spec_l15Add_L1 l h) ⟨0⟩ = some (if (l.any fun b => begB h b.Events) = true then .inl () else .inr ()) := by
      rw [key]
      have := findN_any l fun b => begB h b.Events
      cases hf : findN (fun i => begB h (nth l i).Events) l.length with
      | none => rw [hf] at this; rw [← this]; rfl
      | some k => rw [hf] at this; rw [← this]; rfl
    rw [e]
    simp only [Option.bind_some]
    cases l.any fun b => begB h b.Events
    · simp only [Bool.false_eq_true,if_false]
      obtain ⟨p',c',g1,g2,g3⟩ := add_loop l h hl hs hh l 0 false [] rfl (by omega) (by simp)
      have e0 : ((0 : Nat) : Int) = 0 := rfl
      rw [e0] at g1
      rw [g1]
      simp only [Option.bind_some,ownEv_eq _ hh]
      rw [List.nil_append] at g2
      rw [← g2]
      cases p'
      · rw [if_pos (by rfl),guard_pos (by omega)]; rfl
      · rfl
    · rfl
  · unfold spec_l15Add_L1
    have hi' : i < l.length := hi
    have hbs := hs i hi'
    have e1 : wI ((i : Int) + 1) = ((i + 1 : Nat) : Int) := by rw [wI_id (by omega)]; omega
    simp only [Int.toNat_natCast,e1]
    rw [if_pos (by rw [decide_eq_true_eq]; omega),guard_pos (by omega),spec_l15Begins_eq _ _ (by omega) (by omega)]
    simp only [Option.bind_some]
    cases begB h (nth l i).Events <;> rfl
  · unfold spec_l15Add_L1
    dsimp only
    rw [if_neg (by simp)]
theorem spec_l15Own_eq (t : TellingsT) (hl : t.Branches.length ≤ 1000) (hs : smallB t.Branches) : spec_l15Own t = some t := by
  unfold spec_l15Own
  have key := accL_loop (step := spec_l15Own_L1 t) (fun i c => (⟨i,c⟩ : spec_l15Own_G1)) t.Branches.length (fun i => t.Branches.take i) (fun c => (⟨c⟩ : spec_l15Own_P1_0)) (fun i hi => ?_) ?_
  · simp only [List.take_zero,List.take_length] at key
    rw [key]; rfl
  · have ht : (t.Branches.take i).length = i := by rw [List.length_take]; omega
    have e1 : wI ((i : Int) + 1) = ((i + 1 : Nat) : Int) := by rw [wI_id (by omega)]; omega
    unfold spec_l15Own_L1
    simp only [Int.toNat_natCast,e1,← take_snoc hi]
    rw [if_pos (by rw [decide_eq_true_eq]; omega),guard_pos (by omega),ownEv_eq _ (hs i hi)]
    simp only [Option.bind_some]
    rw [guard_pos (by omega)]
  · unfold spec_l15Own_L1
    dsimp only
    rw [if_neg (by simp)]
theorem putB_len (h : List EventT) (l : List BranchT) : (putB h l false).length ≤ l.length + 1 := by
  have h1 := (putB_perm h l).length_eq
  have h2 := List.length_filter_le (fun b : BranchT => !begB b.Events h) l
  unfold leaves at h1
  rw [List.length_append,List.length_singleton] at h1
  omega
theorem addS_len (l : List BranchT) (h : List EventT) : (addS l h).length ≤ l.length + 1 := by
  unfold addS
  split
  · omega
  · exact putB_len h l
theorem addS_mem {l : List BranchT} {h : List EventT} {b : BranchT} (hb : b ∈ addS l h) : b ∈ l ∨ b = ⟨h⟩ := by
  unfold addS at hb
  split at hb
  · exact .inl hb
  · rcases List.mem_append.1 ((putB_perm h l).mem_iff.1 hb) with e | e
    · exact .inl (List.mem_filter.1 e).1
    · exact .inr (List.mem_singleton.1 e)
theorem begB_ge {x y : List EventT} (h : begB y x = true) : 0 ≤ (cmpL x y).1 := by
  unfold begB at h
  rw [decide_eq_true_eq,cmpL_snd] at h
  cases hf : firstD x y with
  | some i =>
    rw [hf] at h
    unfold firstD at hf
    have := (findN_lt hf).1
    simp only at h
    omega
  | none =>
    rw [hf] at h
    simp only at h
    unfold cmpL
    rw [hf]
    simp only
    rw [if_neg (by omega)]
    split <;> simp
theorem begB_self {h : List EventT} (hh : histP h = true) : begB h h = true := (begB_iff hh hh).2 ⟨Nat.le_refl _,fun _ _ => rfl⟩
theorem not_same {b h : List EventT} (hb : histP b = true) (hh : histP h = true) (hn : begB b h = false) : (cmpL b h).1 ≠ 0 := fun e => by
  have := (evs_same hb hh).1 e
  rw [this,begB_self hh] at hn
  cases hn
theorem goodT_iff (l : List BranchT) : goodT ⟨l⟩ = true ↔ l.length ≤ 12 ∧ (∀ b ∈ l,tellP b.Events = true) ∧ l.Pairwise fun a b => brL a b = true ∧ begB a.Events b.Events = false := by
  unfold goodT
  simp only [Bool.and_eq_true,decide_eq_true_eq,allN_iff,Bool.not_eq_true']
  constructor
  · rintro ⟨h1,h2⟩
    refine ⟨h1,fun b hb => ?_,?_⟩
    · obtain ⟨i,hi,rfl⟩ := List.getElem_of_mem hb
      have := (h2 i hi).1
      rwa [nth_eq hi] at this
    · rw [List.pairwise_iff_getElem]
      intro k i hk hi hki
      have := (h2 i hi).2 k hki
      rw [nth_eq hk,nth_eq hi] at this
      exact ⟨brL_iff.2 this.1,this.2⟩
  · rintro ⟨h1,h2,h3⟩
    refine ⟨h1,fun i hi => ⟨?_,fun k hk => ?_⟩⟩
    · rw [nth_eq hi]; exact h2 _ (List.getElem_mem _)
    · have := List.pairwise_iff_getElem.1 h3 k i (by omega) hi hk
      rw [nth_eq (show k < l.length by omega),nth_eq hi]
      exact ⟨brL_iff.1 this.1,this.2⟩
/-- Branches of histories,rising,none a beginning of another; their number aside. -/
def risT (l : List BranchT) : Prop := (∀ b ∈ l,tellP b.Events = true) ∧ l.Pairwise fun a b => brL a b = true ∧ begB a.Events b.Events = false
theorem ris_good {l : List BranchT} (h : risT l) : goodT ⟨l⟩ = decide (l.length ≤ 12) := by
  by_cases h1 : l.length ≤ 12
  · rw [(goodT_iff l).2 ⟨h1,h⟩]; simp [h1]
  · cases hg : goodT ⟨l⟩
    · simp [h1]
    · exact absurd ((goodT_iff l).1 hg).1 h1
theorem add_ris {l : List BranchT} {h : List EventT} (hl : risT l) (hh : tellP h = true) : risT (addS l h) := by
  unfold addS
  split
  · exact hl
  · rename_i ha
    have hno : ∀ b ∈ l,begB h b.Events = false := fun b hb => by
      cases e : begB h b.Events
      · rfl
      · exact absurd (List.any_eq_true.2 ⟨b,hb,e⟩) ha
    refine ⟨fun b hb => ?_,?_⟩
    · rcases List.mem_append.1 ((putB_perm h l).mem_iff.1 hb) with e | e
      · exact hl.1 b (List.mem_filter.1 e).1
      · rw [List.mem_singleton.1 e]; exact hh
    · have hasc := putB_asc h l (hl.2.imp fun h => h.1) fun b hb hn => not_same (tell_hist (hl.1 b hb)) (tell_hist hh) hn
      have hS : l.Pairwise fun a b => begB a.Events b.Events = false ∧ begB b.Events a.Events = false := hl.2.imp fun {a b} ⟨h1,h2⟩ => ⟨h2,by
        cases e : begB b.Events a.Events
        · rfl
        · have := begB_ge e
          have := brL_iff.1 h1
          omega⟩
      have hS2 : (leaves h l ++ [(⟨h⟩ : BranchT)]).Pairwise fun a b => begB a.Events b.Events = false ∧ begB b.Events a.Events = false := by
        rw [List.pairwise_append]
        refine ⟨hS.filter _,by simp,fun a ha b hb => ?_⟩
        rw [List.mem_singleton.1 hb]
        have ha' := List.mem_filter.1 ha
        exact ⟨by simpa using ha'.2,hno a ha'.1⟩
      have hS3 := ((putB_perm h l).pairwise_iff (R := fun a b : BranchT => begB a.Events b.Events = false ∧ begB b.Events a.Events = false) fun h => ⟨h.2,h.1⟩).2 hS2
      exact (hasc.and hS3).imp fun ⟨a,b⟩ => ⟨a,b.1⟩
theorem goodT_ris {t : TellingsT} (h : goodT t = true) : risT t.Branches := ((goodT_iff t.Branches).1 h).2
def addD (t : TellingsT) (h : List EventT) : TellingsT × Bool := if (goodT t && tellP h && decide ((addS t.Branches h).length ≤ 12)) = true then (⟨addS t.Branches h⟩,true) else (⟨[]⟩,false)
theorem add_ok {l : List BranchT} {h : List EventT} (hl : ok_LBranch l) (hn : l.length ≤ 1000) (hh : ok_LEvent h) : ok_Tellings ⟨addS l h⟩ := by
  refine ⟨by have := addS_len l h; show (addS l h).length ≤ _; omega,fun y hy => ?_⟩
  rcases addS_mem hy with e | e
  · exact hl.2 y e
  · rw [e]; exact hh
theorem spec_AddBranch_eq (t : TellingsT) (h : List EventT) (ht : ok_Tellings t) (hh : ok_LEvent h) : spec_AddBranch t h = some (addD t h) := by
  unfold spec_AddBranch addD
  rw [spec_GoodTellings_eq _ ht,spec_l15History_eq _ hh]
  simp only [Option.bind_some]
  cases hg : goodT t
  · simp
  cases ht2 : tellP h
  · simp
  have h12 := goodT_len hg
  have hsm : smallB t.Branches := fun i hi => Nat.le_trans (hist_len (tell_hist (goodT_tell hg hi))) (by omega)
  have hhl := hist_len (tell_hist ht2)
  have hal := addS_len t.Branches h
  have hr := add_ris (goodT_ris hg) ht2
  have hsm2 : smallB (addS t.Branches h) := fun i hi => Nat.le_trans (hist_len (tell_hist (hr.1 _ (nth_mem hi)))) (by omega)
  rw [if_neg (by simp)]
  simp only [Option.bind_some]
  rw [if_neg (by simp),spec_l15Add_eq _ _ (by omega) hsm (by omega)]
  simp only [Option.bind_some]
  rw [spec_l15Own_eq ⟨addS t.Branches h⟩ (by show (addS t.Branches h).length ≤ 1000; omega) hsm2]
  simp only [Option.bind_some]
  rw [spec_GoodTellings_eq _ (add_ok ht (by omega) hh),ris_good hr]
  simp only [Option.bind_some,Bool.true_and]
  by_cases hc : (addS t.Branches h).length ≤ 12 <;> simp [hc]
end Go.TL
set_option linter.unusedVariables false
set_option linter.unusedSimpArgs false
set_option maxRecDepth 4000
namespace Go.TL
/-- Branches of any number that are no longer than histories may be. -/
def midT (l : List BranchT) : Prop := l.length ≤ 1000 ∧ smallB l
theorem mid_small {t : TellingsT} (h : smallT t) : midT t.Branches := ⟨by have := h.1; omega,fun i hi => by have := h.2 i hi; omega⟩
theorem ris_mid {l : List BranchT} (h : risT l) (hl : l.length ≤ 1000) : midT l := ⟨hl,fun i hi => by
  have := hist_len (tell_hist (h.1 (nth l i) (by rw [nth_eq hi]; exact List.getElem_mem _)))
  omega⟩
theorem cloneMid_eq (t : TellingsT) (h : midT t.Branches) : impl_cloneTellings t = some t := by
  unfold impl_cloneTellings
  have key := accL_loop (step := impl_cloneTellings_L1 t) (fun i c => (⟨i,c⟩ : impl_cloneTellings_G1)) t.Branches.length (fun i => t.Branches.take i) (fun c => (⟨c⟩ : impl_cloneTellings_P1_0)) (fun i hi => ?_) ?_
  · simp only [List.take_zero,List.take_length] at key
    rw [key]; rfl
  · have hl := h.1
    have he := h.2 i hi
    have ht : (t.Branches.take i).length = i := by rw [List.length_take]; omega
    have e1 : wI ((i : Int) + 1) = ((i + 1 : Nat) : Int) := by rw [wI_id (by omega)]; omega
    unfold impl_cloneTellings_L1 slices_Clone_impl_Event
    simp only [Int.toNat_natCast,e1,← take_snoc hi]
    rw [if_pos (by rw [decide_eq_true_eq]; omega),guard_pos (by omega),guard_pos (by omega)]
    simp only [Option.bind_some]
    rw [guard_pos (by rw [ht]; omega)]
  · unfold impl_cloneTellings_L1
    dsimp only
    rw [if_neg (by simp)]
theorem hasFunc_eq (l : List BranchT) (h : List EventT) (hl : l.length ≤ 1000) (hb : ∀ b ∈ l,tellP b.Events = true) (hh : tellP h = true) :
    slices_ContainsFunc_impl_Branch_impl_added_c1r l h = some (l.any fun b => begB h b.Events) := by
  unfold slices_ContainsFunc_impl_Branch_impl_added_c1r slices_IndexFunc_impl_Branch_impl_added_c1r
  have key := find_loop (step := slices_IndexFunc_impl_Branch_impl_added_c1r_L1 l h) (fun i => (⟨i⟩ : slices_IndexFunc_impl_Branch_impl_added_c1r_G1)) l.length (fun i => begB h (nth l i).Events)
    (fun i => (.inl ⟨i⟩ : slices_IndexFunc_impl_Branch_impl_added_c1r_P1_0 ⊕ Unit)) (.inr ()) (fun i hi hv => ?_) ?_
  · rw [key]
    have := findN_any l fun b => begB h b.Events
    cases hf : findN (fun i => begB h (nth l i).Events) l.length with
    | none => rw [hf] at this; rw [← this]; rfl
    | some k =>
      rw [hf] at this
      rw [← this]
      simp
  · unfold slices_IndexFunc_impl_Branch_impl_added_c1r_L1 impl_added_c1_r
    have hi' : i < l.length := hi
    have hbi := hb (nth l i) (by rw [nth_eq hi']; exact List.getElem_mem _)
    have e1 : wI ((i : Int) + 1) = ((i + 1 : Nat) : Int) := by rw [wI_id (by omega)]; omega
    simp only [Int.toNat_natCast,e1]
    rw [if_pos (by rw [decide_eq_true_eq]; omega),guard_pos (by omega),impl_begins_eq _ _ (tell_hist hh) (tell_hist hbi)]
    simp only [Option.bind_some]
    cases begB h (nth l i).Events <;> rfl
  · unfold slices_IndexFunc_impl_Branch_impl_added_c1r_L1
    dsimp only
    rw [if_neg (by simp)]
theorem impl_added_eq (t : TellingsT) (h : List EventT) (ht : risT t.Branches) (hl : t.Branches.length ≤ 900) (hh : tellP h = true) : impl_added t h = some ⟨addS t.Branches h⟩ := by
  have hm := ris_mid ht (by omega)
  have hhl := hist_len (tell_hist hh)
  unfold impl_added
  rw [cloneMid_eq _ hm]
  simp only [Option.bind_some]
  rw [hasFunc_eq _ _ hm.1 ht.1 hh]
  simp only [Option.bind_some]
  unfold addS
  cases ha : t.Branches.any fun b => begB h b.Events
  rotate_left
  · rfl
  simp only [Bool.false_eq_true,if_false]
  have hc : ∀ b ∈ t.Branches,impl_added_c2_r b h = some (begB b.Events h) := fun b hb => by
    unfold impl_added_c2_r
    rw [impl_begins_eq _ _ (tell_hist (ht.1 b hb)) (tell_hist hh)]
    rfl
  have e1 : slices_DeleteFunc_impl_Branch_deep t.Branches h = some (leaves h t.Branches) := by
    unfold slices_DeleteFunc_impl_Branch_deep leaves
    have hal : (t.Branches.all fun b => (impl_added_c2_r b h).isSome) = true := by
      rw [List.all_eq_true]
      intro b hb
      rw [hc b hb]
      rfl
    rw [guard_pos ⟨by omega,hal⟩]
    refine congrArg some (List.filter_congr fun b hb => ?_)
    rw [hc b hb]
    rfl
  rw [e1]
  simp only [Option.bind_some]
  have hll := List.length_filter_le (fun b : BranchT => !begB b.Events h) t.Branches
  change (leaves h t.Branches).length ≤ _ at hll
  unfold slices_Clone_impl_Event
  rw [guard_pos (by omega)]
  simp only [Option.bind_some]
  rw [guard_pos (by omega)]
  have hno : ∀ b ∈ t.Branches,begB h b.Events = false := fun b hb => by
    cases e : begB h b.Events
    · rfl
    · have : (t.Branches.any fun b => begB h b.Events) = true := List.any_eq_true.2 ⟨b,hb,e⟩
      rw [this] at ha; cases ha
  have hne : ∀ b ∈ t.Branches,begB b.Events h = false → (cmpL b.Events h).1 ≠ 0 := fun b hb hn => not_same (tell_hist (ht.1 b hb)) (tell_hist hh) hn
  have hlt : t.Branches.Pairwise fun a b => brL a b = true := ht.2.imp fun h => h.1
  have hapt : aptO brL (leaves h t.Branches ++ [(⟨h⟩ : BranchT)]) = true := by
    refine aptO_iff.2 ?_
    have h1 := putB_asc h t.Branches hlt hne
    exact ((putB_perm h t.Branches).pairwise_iff (R := fun a b : BranchT => brL a b = true ∨ brL b a = true) fun h => h.symm).1 (h1.imp fun h => .inl h)
  have e2 : slices_SortFunc_impl_Branch_deep (leaves h t.Branches ++ [(⟨h⟩ : BranchT)]) = some (putB h t.Branches false) := by
    unfold slices_SortFunc_impl_Branch_deep
    have hal : ((leaves h t.Branches ++ [(⟨h⟩ : BranchT)]).all fun b => decide (b.Events.length ≤ 1000)) = true := by
      rw [List.all_eq_true]
      intro b hb
      rw [decide_eq_true_eq]
      rcases List.mem_append.1 hb with e | e
      · have := hist_len (tell_hist (ht.1 b (List.mem_filter.1 e).1))
        omega
      · rw [List.mem_singleton.1 e]
        show h.length ≤ 1000
        omega
    rw [guard_pos ⟨by simp only [List.length_append,List.length_singleton]; omega,hal,hapt⟩]
    refine congrArg some (putB_sort h t.Branches hlt hne (sortO_perm brL _) ?_)
    refine (sortO_asc brL_trans hapt).imp fun {a b} hab => ?_
    cases e : brL b a
    · rfl
    · have := brL_trans _ _ _ hab e
      rw [brL_irr] at this
      cases this
  rw [e2]
  simp only [Option.bind_some]
  rw [guard_pos (by have := (putB_perm h t.Branches).length_eq; simp only [List.length_append,List.length_singleton] at this; exact this)]
theorem impl_AddBranch_eq (t : TellingsT) (h : List EventT) (ht : ok_Tellings t) (hh : ok_LEvent h) : impl_AddBranch t h = some (addD t h) := by
  unfold impl_AddBranch addD
  rw [impl_GoodTellings_eq _ ht]
  simp only [Option.bind_some]
  cases hg : goodT t
  · simp
  simp only [Bool.not_true,Bool.false_eq_true,if_false]
  rw [impl_isTelling_eq _ hh.1]
  simp only [Option.bind_some]
  cases ht2 : tellP h
  · simp
  have h12 := goodT_len hg
  have hal := addS_len t.Branches h
  simp only [Bool.not_true,Bool.false_eq_true,if_false]
  rw [impl_added_eq _ _ (goodT_ris hg) (by omega) ht2]
  simp only [Option.bind_some,Bool.true_and]
  by_cases hc : (addS t.Branches h).length ≤ 12
  · rw [if_neg (by simp; omega),if_pos (by simpa using hc)]
  · rw [if_pos (by simp; omega),if_neg (by simpa using hc)]
/-! ### Tellings put together -/
def mrgS (l : List BranchT) (m : List BranchT) : List BranchT := m.foldl (fun l x => addS l x.Events) l
theorem mrg_ris : ∀ {m l : List BranchT},risT l → (∀ x ∈ m,tellP x.Events = true) → risT (mrgS l m)
  | [],l,h,_ => h
  | x :: m,l,h,hm => mrg_ris (m := m) (l := addS l x.Events) (add_ris h (hm x (by simp))) fun y hy => hm y (List.mem_cons_of_mem _ hy)
theorem mrg_len : ∀ (m l : List BranchT),(mrgS l m).length ≤ l.length + m.length
  | [],l => by simp [mrgS]
  | x :: m,l => by
    have := mrg_len m (addS l x.Events)
    have := addS_len l x.Events
    show (mrgS (addS l x.Events) m).length ≤ _
    simp only [List.length_cons]
    omega
theorem mrg_ok {m l : List BranchT} (hl : ok_LBranch l) (hm : ok_LBranch m) (h : l.length + m.length ≤ 1000) : ok_LBranch (mrgS l m) := by
  induction m generalizing l with
  | nil => exact hl
  | cons x m ih =>
    simp only [List.length_cons] at h
    have h1 := hm.2 x (by simp)
    refine ih (l := addS l x.Events) (add_ok hl (by omega) h1) ⟨by omega,fun y hy => hm.2 y (List.mem_cons_of_mem _ hy)⟩ ?_
    have := addS_len l x.Events
    omega
theorem mrg_take {l m : List BranchT} {i : Nat} (h : i < m.length) : mrgS l (m.take (i + 1)) = addS (mrgS l (m.take i)) (nth m i).Events := by
  rw [← take_snoc h]
  unfold mrgS
  rw [List.foldl_append]
  rfl
theorem spec_l15Merge_eq (a b : TellingsT) (ha : risT a.Branches) (hb : ∀ x ∈ b.Branches,tellP x.Events = true) (hl : a.Branches.length + b.Branches.length ≤ 900) : spec_l15Merge a b = some ⟨mrgS a.Branches b.Branches⟩ := by
  have hsm : ∀ i,risT (mrgS a.Branches (b.Branches.take i)) ∧ (mrgS a.Branches (b.Branches.take i)).length ≤ 900 := fun i => by
    refine ⟨mrg_ris ha fun x hx => hb x (List.mem_of_mem_take hx),?_⟩
    have := mrg_len (b.Branches.take i) a.Branches
    have : (b.Branches.take i).length ≤ b.Branches.length := by rw [List.length_take]; omega
    omega
  unfold spec_l15Merge
  have key := accL_loop (step := spec_l15Merge_L1 b) (fun i c => (⟨c,i⟩ : spec_l15Merge_G1)) b.Branches.length (fun i => mrgS a.Branches (b.Branches.take i)) (fun c => (⟨c⟩ : spec_l15Merge_P1_0)) (fun i hi => ?_) ?_
  · have e0 : mrgS a.Branches (b.Branches.take 0) = a.Branches := rfl
    rw [e0,List.take_length] at key
    rw [key]
    simp only [Option.bind_some]
    have h2 := hsm b.Branches.length
    rw [List.take_length] at h2
    have h3 := ris_mid h2.1 (by omega)
    rw [spec_l15Own_eq ⟨mrgS a.Branches b.Branches⟩ h3.1 h3.2]
    rfl
  · have h2 := hsm i
    have h3 := ris_mid h2.1 (by omega)
    have h4 := hist_len (tell_hist (hb (nth b.Branches i) (by rw [nth_eq hi]; exact List.getElem_mem _)))
    have e1 : wI ((i : Int) + 1) = ((i + 1 : Nat) : Int) := by rw [wI_id (by omega)]; omega
    unfold spec_l15Merge_L1
    simp only [Int.toNat_natCast,e1,mrg_take hi]
    rw [if_pos (by rw [decide_eq_true_eq]; omega),guard_pos (by omega),spec_l15Add_eq _ _ h3.1 h3.2 (by omega)]
    rfl
  · unfold spec_l15Merge_L1
    dsimp only
    rw [if_neg (by simp)]
def mrgD (a b : TellingsT) : TellingsT × Bool := if (goodT a && goodT b && decide ((mrgS a.Branches b.Branches).length ≤ 12)) = true then (⟨mrgS a.Branches b.Branches⟩,true) else (⟨[]⟩,false)
theorem spec_MergeTellings_eq (a b : TellingsT) (ha : ok_Tellings a) (hb : ok_Tellings b) : spec_MergeTellings a b = some (mrgD a b) := by
  unfold spec_MergeTellings mrgD
  rw [spec_GoodTellings_eq _ ha]
  simp only [Option.bind_some]
  cases hg : goodT a
  · simp
  rw [spec_GoodTellings_eq _ hb]
  simp only [Option.bind_some]
  cases hg2 : goodT b
  · simp
  have h1 := goodT_len hg
  have h2 := goodT_len hg2
  have hr := mrg_ris (goodT_ris hg) (goodT_ris hg2).1
  simp only [Bool.not_true,Bool.false_eq_true,if_false,Option.bind_some]
  rw [spec_l15Merge_eq _ _ (goodT_ris hg) (goodT_ris hg2).1 (by omega)]
  simp only [Option.bind_some]
  rw [spec_GoodTellings_eq ⟨mrgS a.Branches b.Branches⟩ (mrg_ok ha hb (by omega)),ris_good hr]
  simp only [Option.bind_some,Bool.true_and]
  by_cases hc : (mrgS a.Branches b.Branches).length ≤ 12
  · simp [hc]
  · simp [hc]
theorem impl_MergeTellings_eq (a b : TellingsT) (ha : ok_Tellings a) (hb : ok_Tellings b) : impl_MergeTellings a b = some (mrgD a b) := by
  unfold impl_MergeTellings mrgD
  rw [impl_GoodTellings_eq _ ha]
  simp only [Option.bind_some]
  cases hg : goodT a
  · simp
  rw [impl_GoodTellings_eq _ hb]
  simp only [Option.bind_some]
  cases hg2 : goodT b
  · simp
  have h1 := goodT_len hg
  have h2 := goodT_len hg2
  have hr := mrg_ris (goodT_ris hg) (goodT_ris hg2).1
  simp only [Bool.not_true,Bool.false_eq_true,if_false,Option.bind_some]
  rw [cloneMid_eq _ (mid_small (goodT_small hg))]
  simp only [Option.bind_some]
  have key := accL_loop (step := impl_MergeTellings_L1 b) (fun i c => (⟨i,c⟩ : impl_MergeTellings_G1)) b.Branches.length (fun i => mrgS a.Branches (b.Branches.take i)) (fun c => (⟨c⟩ : impl_MergeTellings_P1_0)) (fun i hi => ?_) ?_
  · have e0 : mrgS a.Branches (b.Branches.take 0) = a.Branches := rfl
    rw [e0,List.take_length] at key
    rw [key]
    simp only [Option.bind_some,Bool.true_and]
    by_cases hc : (mrgS a.Branches b.Branches).length ≤ 12
    · rw [if_neg (by simp; omega),if_pos (by simpa using hc)]
    · rw [if_pos (by simp; omega),if_neg (by simpa using hc)]
  · have h3 := mrg_ris (goodT_ris hg) (m := b.Branches.take i) fun x hx => (goodT_ris hg2).1 x (List.mem_of_mem_take hx)
    have h4 := mrg_len (b.Branches.take i) a.Branches
    have h5 : (b.Branches.take i).length ≤ b.Branches.length := by rw [List.length_take]; omega
    have e1 : wI ((i : Int) + 1) = ((i + 1 : Nat) : Int) := by rw [wI_id (by omega)]; omega
    unfold impl_MergeTellings_L1
    simp only [Int.toNat_natCast,e1,mrg_take hi]
    rw [if_pos (by rw [decide_eq_true_eq]; omega),guard_pos (by omega),impl_added_eq ⟨mrgS a.Branches (b.Branches.take i)⟩ _ h3 (by simp only; omega) (goodT_tell hg2 hi)]
    rfl
  · unfold impl_MergeTellings_L1
    dsimp only
    rw [if_neg (by simp)]
end Go.TL
set_option linter.unusedVariables false
set_option linter.unusedSimpArgs false
set_option maxRecDepth 4000
namespace Go.TL
theorem spec_l12Fold_w_eq (l : List EventT) (hl : ok_LEvent l) : spec_l12Fold_w l = some ((foldP l).1,(((foldP l).2 : Nat) : Int)) := by
  unfold spec_l12Fold_w spec_NewState
  simp only [Option.bind_some]
  obtain ⟨y,hy,he⟩ := spec_fold_w_loop l hl l 0 newS rfl (by omega) newS_good
  have hy' : loopF (spec_l12Fold_w_L1 l) ⟨0,0,1,false,0,[],[]⟩ = some y := hy
  rw [hy']
  simp only [Option.bind_some]
  cases y with
  | inl p => exact he
  | inr p => exact he
theorem nth_take_le {l : List EventT} {n k : Nat} (h : okH n l) : okH n (l.take k) := ⟨by have := h.1; rw [List.length_take]; omega,fun e he => h.2 e (List.mem_of_mem_take he)⟩
set_option maxHeartbeats 1000000 in
theorem grown_ok {c : l1CurT} {K : Int} {h : List EventT} {n : Nat} (hc : cur c K) (h0 : 0 ≤ K) (hK : K ≤ 4611686018427380000) (hh : okH n h) (hn : n ≤ 60) : okO (fun r => okH (n + 3) r.1 ∧ cur r.2 (K + 40)) (spec_l1Cur_grown_o_F c h) := by
  unfold spec_l1Cur_grown_o_F
  refine okO.bind (P := fun p => okH n p.t1) ?_ fun p hp => ?_
  · rw [spec_IsHistory_eq _ (okH_ok hh (by omega))]
    exact okO.bind_some (okO.ite (fun _ => okO.some ⟨by simp,fun e he => by simp at he⟩) (fun _ => okO.some hh))
  have hpl := hp.1
  have hw : wI (((p.t1.length : Nat) : Int) + 1) = ((p.t1.length : Nat) : Int) + 1 := wI_id (by omega)
  rw [hw]
  refine pick_b hc (by omega) (by omega) fun x1 c1 p1 _ q1 h1 => ?_
  have q1 := q1 (by omega)
  dsimp only
  refine okO.guard ⟨p1,by omega⟩ ?_
  have hl := nth_take_le (k := x1.toNat) hp
  have hll := hl.1
  rw [ownEv_eq _ (by omega)]
  refine okO.bind_some ?_
  rw [spec_l12Fold_w_eq _ (okH_ok hl (by omega))]
  refine okO.bind_some ?_
  refine pick_b h1 (by omega) (by omega) fun x2 c2 p2 _ q2 h2 => ?_
  have q2 := q2 (by omega)
  refine okO.bind (P := fun q => ok_I q.t8 ∧ cur ⟨q.b0_0,q.b0_1,q.b0_2⟩ (K + 8)) ?_ fun q ⟨n1,n2⟩ => ?_
  · refine okO.ite (fun hc => ?_) (fun _ => okO.some ⟨(⟨by omega,by omega⟩ : ok_I x2),h2.up (by omega)⟩)
    have hc' := of_decide_eq_true hc
    have hw2 : wI ((((p.t1.take x1.toNat).length : Nat) : Int) - 1) = (((p.t1.take x1.toNat).length : Nat) : Int) - 1 := wI_id (by omega)
    refine okO.guard (by rw [hw2]; omega) ?_
    exact pick_b h2 (by omega) (by omega) fun x3 c3 _ _ _ h3 => okO.some ⟨wI_range _,h3.up (by omega)⟩
  refine pick_b n2 (by omega) (by omega) fun x3 c3 p3 _ q3 h3 => ?_
  have q3 := q3 (by omega)
  have hst := goodSt_small (foldP_good (p.t1.take x1.toNat))
  refine okO.bind (P := fun y => okH (n + 3) y.c1 ∧ cur ⟨y.b0_0,y.b0_1,y.b0_2⟩ (K + 40)) ?_ fun y hy => okO.some hy
  refine okO.loop (fun g => 0 ≤ g.t9 ∧ g.t9 ≤ 3 ∧ ok_I g.t8 ∧ okH (n + (3 - g.t9).toNat) g.c1 ∧ okSt (30 + (3 - g.t9).toNat) ⟨g.b2_0,g.b2_1,g.b2_2,g.b2_3,g.b2_4,g.b2_5⟩ ∧ cur ⟨g.b0_0,g.b0_1,g.b0_2⟩ (K + 10 + 8 * (3 - g.t9))) (fun g => g.t9.toNat)
    ⟨p3,by simp only; omega,n1,okH_up hl (by simp only; omega),⟨okN_up hst.1 (by simp only; omega),okN_up hst.2.1 (by simp only; omega),hst.2.2⟩,h3.up (by simp only; omega)⟩ fun g ⟨g1,g2,g3,g4,g5,g6⟩ => ?_
  unfold spec_l1Cur_grown_o_F_L1
  refine okO.ite (fun hc => ?_) (fun hc => okO.some ⟨okH_up g4 (by omega),g6.up (by omega)⟩)
  have hc' : g.t9 > 0 := by simpa using hc
  have hw : wI (g.t9 - 1) = g.t9 - 1 := wI_id (by omega)
  refine among_m g6 (by omega) (by simp) fun y5 c5 hy5 h5 => ?_
  refine of_m h5 (by omega) (by simp) fun t6 c6 ht6 h6 => ?_
  have ht6 := mem_small (by decide) ht6
  refine okO.bind (P := fun p => ok_I p.b3_2) ?_ fun p hp => ?_
  · exact okO.ite (fun _ => okO.some ⟨by simp,by simp⟩) (fun _ => okO.some (mem_int (by decide) hy5))
  have hev : okE ⟨g.b2_1,g.t8,p.b3_2,t6⟩ := ⟨g5.2.2,g3,hp,ht6⟩
  refine okO.bind (apply_total g5 (by omega) ht6) fun r hr => ?_
  have e12 : (3 - (g.t9 - 1)).toNat = (3 - g.t9).toNat + 1 := by omega
  have hgl := g4.1
  refine okO.ite (fun _ => ?_) (fun _ => ?_)
  · refine okO.guard (by omega) ?_
    refine pick_b h6 (by omega) (by omega) fun x7 c7 _ _ _ h7 => okO.some ?_
    simp only [hw]
    exact ⟨⟨by omega,by omega,wI_range _,by rw [e12]; exact okH_add g4 hev,by rw [e12]; exact hr,h7.up (by omega)⟩,by omega⟩
  · refine pick_b h6 (by omega) (by omega) fun x7 c7 _ _ _ h7 => okO.some ?_
    simp only [hw]
    exact ⟨⟨by omega,by omega,wI_range _,okH_up g4 (by omega),⟨okN_up g5.1 (by omega),okN_up g5.2.1 (by omega),g5.2.2⟩,h7.up (by omega)⟩,by omega⟩
theorem stem_ok {c : l1CurT} {K : Int} (hc : cur c K) (h0 : 0 ≤ K) (hK : K ≤ 4611686018427370000) : okO (fun r => okH 9 r.1 ∧ cur r.2 (K + 130)) (spec_l1Cur_stem_o_F c) := by
  unfold spec_l1Cur_stem_o_F
  refine okO.bind (grown_ok (n := 0) hc h0 (by omega) ⟨by simp,fun e he => by simp at he⟩ (by omega)) fun r ⟨r1,r2⟩ => ?_
  refine pick_b r2 (by omega) (by omega) fun x1 c1 p1 _ q1 h1 => ?_
  have q1 := q1 (by omega)
  refine okO.bind (P := fun y => okH 9 y.t3 ∧ cur ⟨y.b0_0,y.b0_1,y.b0_2⟩ (K + 130)) ?_ fun y hy => okO.some hy
  refine okO.loop (fun g => 0 ≤ g.t4 ∧ g.t4 ≤ 2 ∧ okH (3 + 3 * (2 - g.t4).toNat) g.t3 ∧ cur ⟨g.b0_0,g.b0_1,g.b0_2⟩ (K + 42 + 40 * (2 - g.t4))) (fun g => g.t4.toNat)
    ⟨p1,by simp only; omega,okH_up r1 (by simp only; omega),h1.up (by simp only; omega)⟩ fun g ⟨g1,g2,g3,g4⟩ => ?_
  unfold spec_l1Cur_stem_o_F_L1
  refine okO.ite (fun hc => ?_) (fun hc => okO.some ⟨okH_up g3 (by omega),g4.up (by omega)⟩)
  have hc' : g.t4 > 0 := by simpa using hc
  have hw : wI (g.t4 - 1) = g.t4 - 1 := wI_id (by omega)
  refine okO.bind (grown_ok g4 (by omega) (by omega) g3 (by omega)) fun r ⟨s1,s2⟩ => ?_
  refine okO.ite (fun _ => okO.some ?_) (fun _ => okO.some ?_)
  · simp only [hw]
    exact ⟨⟨by omega,by omega,okH_up s1 (by omega),s2.up (by omega)⟩,by omega⟩
  · simp only [hw]
    exact ⟨⟨by omega,by omega,okH_up g3 (by omega),s2.up (by omega)⟩,by omega⟩
/-- Tellings of a bounded size. -/
abbrev okT (t : TellingsT) : Prop := t.Branches.length ≤ 16 ∧ ∀ b ∈ t.Branches,okH 60 b.Events
theorem okT_ok {t : TellingsT} (h : okT t) : ok_Tellings t := ⟨by have := h.1; omega,fun b hb => okH_ok (h.2 b hb) (by omega)⟩
theorem addD_okT {t : TellingsT} {h : List EventT} (ht : okT t) (hh : okH 60 h) : okT (addD t h).1 := by
  unfold addD
  split
  · rename_i hc
    simp only [Bool.and_eq_true,decide_eq_true_eq] at hc
    refine ⟨by show (addS t.Branches h).length ≤ 16; omega,fun b hb => ?_⟩
    rcases addS_mem hb with e | e
    · exact ht.2 b e
    · rw [e]; exact hh
  · exact ⟨by simp,fun b hb => by simp at hb⟩
set_option maxHeartbeats 1000000 in
theorem tellings_ok {c : l1CurT} {K : Int} {h : List EventT} (hc : cur c K) (h0 : 0 ≤ K) (hK : K ≤ 4611686018427360000) (hh : okH 9 h) : okO (fun r => okT r.1 ∧ cur r.2 (K + 900)) (spec_l1Cur_tellings_o c h) := by
  unfold spec_l1Cur_tellings_o
  refine pick_b hc (by omega) (by omega) fun x1 c1 p1 _ q1 h1 => ?_
  have q1 := q1 (by omega)
  refine okO.bind (P := fun p => 0 ≤ p.t6 ∧ p.t6 ≤ 16 ∧ cur ⟨p.b0_0,p.b0_1,p.b0_2⟩ (K + 4)) ?_ fun p ⟨m1,m2,m3⟩ => ?_
  · exact one_b h1 (by omega) (by omega) fun b c2 h2 => okO.ite (fun _ => okO.some ⟨by simp only; omega,by simp only; omega,h2.up (by omega)⟩) (fun _ => okO.some ⟨p1,by simp only; omega,h2.up (by omega)⟩)
  refine okO.bind (P := fun y => okT ⟨y.c3⟩ ∧ cur ⟨y.b0_0,y.b0_1,y.b0_2⟩ (K + 650)) ?_ fun y ⟨y1,y2⟩ => ?_
  · refine okO.loop (fun g => 0 ≤ g.t6 ∧ g.t6 ≤ 16 ∧ okT ⟨g.c3⟩ ∧ cur ⟨g.b0_0,g.b0_1,g.b0_2⟩ (K + 4 + 40 * (16 - g.t6))) (fun g => g.t6.toNat)
      ⟨m1,m2,⟨by simp,fun b hb => by simp at hb⟩,m3.up (by simp only; omega)⟩ fun g ⟨g1,g2,g3,g4⟩ => ?_
    unfold spec_l1Cur_tellings_o_L1
    refine okO.ite (fun hc => ?_) (fun hc => okO.some ⟨g3,g4.up (by omega)⟩)
    have hc' : g.t6 > 0 := by simpa using hc
    have hw : wI (g.t6 - 1) = g.t6 - 1 := wI_id (by omega)
    refine okO.bind (grown_ok g4 (by omega) (by omega) hh (by omega)) fun r ⟨s1,s2⟩ => ?_
    rw [spec_AddBranch_eq _ _ (okT_ok g3) (okH_ok s1 (by omega))]
    refine okO.bind_some (okO.ite (fun _ => okO.some ?_) (fun _ => okO.some ?_))
    · simp only [hw]
      exact ⟨⟨by omega,by omega,addD_okT g3 (okH_up s1 (by omega)),s2.up (by omega)⟩,by omega⟩
    · simp only [hw]
      exact ⟨⟨by omega,by omega,g3,s2.up (by omega)⟩,by omega⟩
  have hyl := y1.1
  simp only at hyl
  refine okO.bind (P := fun q => cur ⟨q.b0_0,q.b0_1,q.b0_2⟩ (K + 652) ∧ (q.t36 = true → 0 < y.c3.length)) ?_ fun q ⟨n1,n2⟩ => ?_
  · refine okO.ite (fun hc => ?_) (fun _ => okO.some ⟨y2.up (by omega),fun h => by cases h⟩)
    have hc' := of_decide_eq_true hc
    exact one_b y2 (by omega) (by omega) fun b c2 h2 => okO.some ⟨h2.up (by omega),fun _ => by omega⟩
  refine okO.ite (fun hc => ?_) (fun _ => okO.some ⟨y1,n1.up (by omega)⟩)
  have hpos := n2 hc
  refine pick_b n1 (by omega) (by omega) fun x5 c5 p5 _ q5 h5 => ?_
  have q5 := q5 (by omega)
  refine okO.bind (history_ok h5 (by omega) (by omega)) fun r ⟨r1,r2⟩ => okO.guard ⟨p5,q5⟩ (okO.some ⟨⟨by simp only [List.length_set]; omega,fun b hb => ?_⟩,r2.up (by omega)⟩)
  rcases List.mem_or_eq_of_mem_set hb with e | e
  · exact y1.2 b e
  · rw [e]; exact okH_up r1 (by omega)
end Go.TL
set_option linter.unusedVariables false
set_option linter.unusedSimpArgs false
set_option maxRecDepth 4000
namespace Go.TL
theorem sameEvents_eq (a b : List EventT) (ha : a.length ≤ 9223372036854775807) : laws_sameEvents a b = some (decide (a = b)) := by
  unfold laws_sameEvents
  by_cases hl : a.length = b.length
  · rw [if_neg (by simp [hl])]
    have key := eq_loop (step := laws_sameEvents_L1 a b) (fun i => (⟨i⟩ : laws_sameEvents_G1)) a b hl (fun i hi => ?_) ?_
    · rw [key]; by_cases h : a = b <;> simp [h]
    · unfold laws_sameEvents_L1
      simp (disch := omega) only [decide_eq_true_eq,if_pos,guard_pos,Int.toNat_natCast,wI_id]
      rw [evEq]
      by_cases h : nth a i = nth b i <;> simp [h]
    · unfold laws_sameEvents_L1
      rw [if_neg (by simp)]
  · rw [if_pos (by simp; omega)]
    simp [show a ≠ b from fun h => hl (by rw [h])]
theorem part_take {a b : List EventT} (ha : histP a = true) (hb : histP b = true) : (cmpL a b).2 ≤ a.length ∧ (cmpL a b).2 ≤ b.length ∧ a.take (cmpL a b).2 = b.take (cmpL a b).2 := by
  have hle : (cmpL a b).2 ≤ min a.length b.length := by
    rw [cmpL_snd]
    cases hf : firstD a b with
    | some i => unfold firstD at hf; have := (findN_lt hf).1; simp only; omega
    | none => simp
  refine ⟨by omega,by omega,?_⟩
  refine list_ext (by rw [List.length_take,List.length_take]; omega) fun j hj => ?_
  rw [List.length_take] at hj
  rw [nth_take (by omega),nth_take (by omega)]
  refine (hist_same ha hb (by omega) (by omega)).2 ?_
  have hz : j < (cmpL a b).2 := by omega
  rw [cmpL_snd] at hz
  cases hf : firstD a b with
  | some i =>
    rw [hf] at hz
    unfold firstD at hf
    have := (findN_lt hf).2.2 j hz
    simpa using this
  | none =>
    unfold firstD at hf
    have := findN_no hf j (by omega)
    simpa using this
theorem bind_eq_of {α β : Type} {o : Option α} {x : α} {f : α → Option β} {r : Option β} (h : o = some x) (h2 : f x = r) : o.bind f = r := by rw [h]; exact h2
end Go.TL
set_option linter.unusedVariables false
set_option linter.unusedSimpArgs false
set_option maxRecDepth 4000
namespace Go.TL
theorem pre_nth {c b : List EventT} (h : c <+: b) {i : Nat} (hi : i < c.length) : nth c i = nth b i := by
  obtain ⟨t,rfl⟩ := h
  rw [nth_eq hi,nth_eq (by rw [List.length_append]; omega),List.getElem_append_left hi]
theorem beg_pre {c b : List EventT} (hc : histP c = true) (hb : histP b = true) : begB c b = true ↔ c <+: b := by
  rw [begB_iff hc hb]
  constructor
  · rintro ⟨h1,h2⟩
    rw [List.prefix_iff_eq_take]
    refine list_ext (by rw [List.length_take]; omega) fun j hj => ?_
    rw [nth_take hj]
    exact h2 j hj
  · intro h
    exact ⟨h.length_le,fun i hi => pre_nth h hi⟩
/-- A history that is one of them,or a beginning of one. -/
def covs (l : List BranchT) (e : List EventT) : Prop := ∃ b ∈ l,e <+: b.Events
def allH (l : List BranchT) : Prop := ∀ b ∈ l,histP b.Events = true
theorem put_mem {h : List EventT} {l : List BranchT} {b : BranchT} : b ∈ putB h l false ↔ (b ∈ l ∧ begB b.Events h = false) ∨ b = ⟨h⟩ := by
  rw [(putB_perm h l).mem_iff,List.mem_append,List.mem_singleton]
  unfold leaves
  rw [List.mem_filter]
  simp
theorem add_covs {l : List BranchT} {h e : List EventT} (hl : allH l) (hh : histP h = true) : covs (addS l h) e ↔ covs l e ∨ e <+: h := by
  unfold addS
  split
  · rename_i ha
    refine ⟨.inl,fun hc => hc.elim id fun he => ?_⟩
    obtain ⟨b,hb,h1⟩ := List.any_eq_true.1 ha
    exact ⟨b,hb,he.trans ((beg_pre hh (hl b hb)).1 h1)⟩
  · constructor
    · rintro ⟨b,hb,h1⟩
      rcases put_mem.1 hb with h2 | h2
      · exact .inl ⟨b,h2.1,h1⟩
      · subst h2; exact .inr h1
    · rintro (⟨b,hb,h1⟩ | h1)
      · cases hbh : begB b.Events h
        · exact ⟨b,put_mem.2 (.inl ⟨hb,hbh⟩),h1⟩
        · exact ⟨⟨h⟩,put_mem.2 (.inr rfl),h1.trans ((beg_pre (hl b hb) hh).1 hbh)⟩
      · exact ⟨⟨h⟩,put_mem.2 (.inr rfl),h1⟩
theorem ris_allH {l : List BranchT} (h : risT l) : allH l := fun b hb => tell_hist (h.1 b hb)
theorem mrg_covs {e : List EventT} : ∀ {m l : List BranchT},risT l → (∀ x ∈ m,tellP x.Events = true) → (covs (mrgS l m) e ↔ covs l e ∨ covs m e)
  | [],l,h,_ => by
    show covs l e ↔ _
    refine ⟨.inl,fun h => h.elim id fun ⟨b,hb,_⟩ => by simp at hb⟩
  | x :: m,l,h,hm => by
    have hx := hm x (by simp)
    have ih := mrg_covs (e := e) (m := m) (l := addS l x.Events) (add_ris h hx) fun y hy => hm y (List.mem_cons_of_mem _ hy)
    show covs (mrgS (addS l x.Events) m) e ↔ _
    rw [ih,add_covs (ris_allH h) (tell_hist hx)]
    constructor
    · rintro ((h1 | h1) | ⟨b,hb,h1⟩)
      · exact .inl h1
      · exact .inr ⟨x,by simp,h1⟩
      · exact .inr ⟨b,List.mem_cons_of_mem _ hb,h1⟩
    · rintro (h1 | ⟨b,hb,h1⟩)
      · exact .inl (.inl h1)
      · rcases List.mem_cons.1 hb with e1 | e1
        · subst e1; exact .inl (.inr h1)
        · exact .inr ⟨b,e1,h1⟩
theorem ris_apart {l : List BranchT} (h : risT l) {a b : BranchT} (ha : a ∈ l) (hb : b ∈ l) (hab : a.Events <+: b.Events) : a = b := by
  have hp : l.Pairwise fun a b => (begB a.Events b.Events = false ∧ begB b.Events a.Events = false) := h.2.imp fun {a b} ⟨h1,h2⟩ => ⟨h2,by
    cases e : begB b.Events a.Events
    · rfl
    · have := begB_ge e
      have := brL_iff.1 h1
      omega⟩
  have hbeg := (beg_pre (tell_hist (h.1 a ha)) (tell_hist (h.1 b hb))).2 hab
  obtain ⟨i,hi,rfl⟩ := List.getElem_of_mem ha
  obtain ⟨j,hj,rfl⟩ := List.getElem_of_mem hb
  rw [List.pairwise_iff_getElem] at hp
  rcases Nat.lt_trichotomy i j with h1 | h1 | h1
  · have := (hp i j hi hj h1).1
    rw [hbeg] at this; cases this
  · subst h1; rfl
  · have := (hp j i hj hi h1).2
    rw [hbeg] at this; cases this
theorem ris_sub {l m : List BranchT} (hl : risT l) (hm : risT m) (h : ∀ e,covs l e ↔ covs m e) {x : BranchT} (hx : x ∈ l) : x ∈ m := by
  obtain ⟨y,hy,h1⟩ := (h x.Events).1 ⟨x,hx,List.prefix_refl _⟩
  obtain ⟨z,hz,h2⟩ := (h y.Events).2 ⟨y,hy,List.prefix_refl _⟩
  have hxz := ris_apart hl hx hz (h1.trans h2)
  subst hxz
  have : x.Events = y.Events := h1.eq_of_length_le h2.length_le
  have : x = y := by
    cases x; cases y
    simp only at this
    rw [this]
  rw [this]; exact hy
theorem ris_ext {l m : List BranchT} (hl : risT l) (hm : risT m) (h : ∀ e,covs l e ↔ covs m e) : l = m :=
  asc_ext brL_irr brL_trans (hl.2.imp fun h => h.1) (hm.2.imp fun h => h.1) fun z => ⟨fun hz => ris_sub hl hm h hz,fun hz => ris_sub hm hl (fun e => (h e).symm) hz⟩
theorem mrg_comm {l m : List BranchT} (hl : risT l) (hm : risT m) : mrgS m l = mrgS l m :=
  ris_ext (mrg_ris hm hl.1) (mrg_ris hl hm.1) fun e => by rw [mrg_covs hm hl.1,mrg_covs hl hm.1]; exact or_comm
theorem mrg_self {l : List BranchT} (hl : risT l) : mrgS l l = l :=
  ris_ext (mrg_ris hl hl.1) hl fun e => by rw [mrg_covs hl hl.1]; exact or_self_iff
theorem mrg_again {l m : List BranchT} (hl : risT l) (hm : risT m) : mrgS (mrgS l m) l = mrgS l m :=
  ris_ext (mrg_ris (mrg_ris hl hm.1) hl.1) (mrg_ris hl hm.1) fun e => by
    rw [mrg_covs (mrg_ris hl hm.1) hl.1,mrg_covs hl hm.1]
    constructor
    · rintro (h | h)
      · exact h
      · exact .inl h
    · exact .inl
theorem has_covs {t : TellingsT} {l : List EventT} (ht : goodT t = true) (hl : tellP l = true) : hasP t l = true ↔ covs t.Branches l := by
  unfold hasP covs
  rw [List.any_eq_true]
  constructor
  · rintro ⟨b,hb,h⟩
    exact ⟨b,hb,(beg_pre (tell_hist hl) (ris_allH (goodT_ris ht) b hb)).1 h⟩
  · rintro ⟨b,hb,h⟩
    exact ⟨b,hb,(beg_pre (tell_hist hl) (ris_allH (goodT_ris ht) b hb)).2 h⟩
/-! ### The number of events -/
theorem nodup_le {α : Type} [DecidableEq α] : ∀ {a b : List α},a.Nodup → (∀ x ∈ a,x ∈ b) → a.length ≤ b.length
  | [],b,_,_ => by simp
  | x :: a,b,hn,h => by
    rw [List.nodup_cons] at hn
    have hx := h x (by simp)
    have ih := nodup_le (a := a) (b := b.erase x) hn.2 fun y hy => by
      rw [List.mem_erase_of_ne fun e => hn.1 (by rw [← e]; exact hy)]
      exact h y (List.mem_cons_of_mem _ hy)
    rw [List.length_erase_of_mem hx] at ih
    have := List.length_pos_of_mem hx
    simp only [List.length_cons]
    omega
theorem take_pre {a b : List EventT} (ha : histP a = true) (hb : histP b = true) {j : Nat} (hj : j ≤ a.length) : a.take j <+: b ↔ j ≤ (cmpL b a).2 := by
  rw [cmpL_sym]
  obtain ⟨h1,h2,h3⟩ := part_take ha hb
  constructor
  · intro h
    refine Nat.le_of_not_lt fun hlt => ?_
    have hjl : (a.take j).length = j := by rw [List.length_take]; omega
    have hle := h.length_le
    rw [hjl] at hle
    have hn := pre_nth h (i := (cmpL a b).2) (by omega)
    rw [nth_take (by omega)] at hn
    rw [cmpL_snd] at hlt hn
    cases hf : firstD a b with
    | some i =>
      rw [hf] at hlt hn
      simp only at hlt hn
      unfold firstD at hf
      obtain ⟨g1,g2,_⟩ := findN_lt hf
      simp only [ne_eq,decide_not,Bool.not_eq_true',decide_eq_false_iff_not] at g2
      exact g2 ((hist_same ha hb (by omega) (by omega)).1 hn)
    | none =>
      rw [hf] at hlt
      simp only at hlt
      omega
  · intro h
    have : a.take j = (a.take (cmpL a b).2).take j := by rw [List.take_take,Nat.min_eq_left h]
    rw [this,h3,List.take_take,Nat.min_eq_left h]
    exact List.take_prefix _ _
/-- The beginnings of a branch that none ahead of it has. -/
def newP (t : TellingsT) (i : Nat) : List (List EventT) := (List.range' ((knI t i i).toNat + 1) ((evsAt t i).length - (knI t i i).toNat)).map fun j => (evsAt t i).take j
def preL (t : TellingsT) : Nat → List (List EventT)
  | 0 => []
  | i + 1 => preL t i ++ newP t i
theorem newP_mem {t : TellingsT} {i : Nat} {e : List EventT} : e ∈ newP t i ↔ ∃ j,(knI t i i).toNat < j ∧ j ≤ (evsAt t i).length ∧ e = (evsAt t i).take j := by
  have := knI_le t i i
  unfold newP
  rw [List.mem_map]
  constructor
  · rintro ⟨j,hj,rfl⟩
    rw [List.mem_range'_1] at hj
    exact ⟨j,by omega,by omega,rfl⟩
  · rintro ⟨j,h1,h2,rfl⟩
    exact ⟨j,by rw [List.mem_range'_1]; omega,rfl⟩
theorem kn_ge (t : TellingsT) (i : Nat) : ∀ n k,k < n → (((cmpL (evsAt t k) (evsAt t i)).2 : Nat) : Int) ≤ knI t i n
  | 0,k,h => by omega
  | n + 1,k,h => by
    unfold knI
    by_cases hk : k = n
    · subst hk; exact Int.le_max_right _ _
    · exact Int.le_trans (kn_ge t i n k (by omega)) (Int.le_max_left _ _)
theorem kn_is (t : TellingsT) (i : Nat) : ∀ n,knI t i n = 0 ∨ ∃ k,k < n ∧ knI t i n = (((cmpL (evsAt t k) (evsAt t i)).2 : Nat) : Int)
  | 0 => .inl rfl
  | n + 1 => by
    unfold knI
    rcases Int.le_total (knI t i n) (((cmpL (evsAt t n) (evsAt t i)).2 : Nat) : Int) with h | h
    · rw [Int.max_eq_right h]
      exact .inr ⟨n,by omega,rfl⟩
    · rw [Int.max_eq_left h]
      rcases kn_is t i n with h1 | ⟨k,h1,h2⟩
      · exact .inl h1
      · exact .inr ⟨k,by omega,h2⟩
theorem preL_mem {t : TellingsT} (ht : goodT t = true) {e : List EventT} : ∀ n,n ≤ t.Branches.length → (e ∈ preL t n ↔ e ≠ [] ∧ ∃ i,i < n ∧ e <+: evsAt t i)
  | 0,_ => by simp [preL]
  | n + 1,hn => by
    have ih := preL_mem ht (e := e) n (by omega)
    have hh : ∀ i,i < t.Branches.length → histP (evsAt t i) = true := fun i hi => tell_hist (goodT_tell ht hi)
    unfold preL
    rw [List.mem_append,ih,newP_mem]
    constructor
    · rintro (⟨h1,i,h2,h3⟩ | ⟨j,h1,h2,rfl⟩)
      · exact ⟨h1,i,by omega,h3⟩
      · refine ⟨fun e0 => ?_,n,by omega,List.take_prefix _ _⟩
        have := congrArg List.length e0
        rw [List.length_take,List.length_nil] at this
        omega
    · rintro ⟨h1,i,h2,h3⟩
      by_cases hi : i = n
      · subst hi
        have he := List.prefix_iff_eq_take.1 h3
        have hlen := h3.length_le
        have hpos : 0 < e.length := List.length_pos_iff.2 h1
        by_cases hk : (knI t i i).toNat < e.length
        · exact .inr ⟨e.length,hk,hlen,he⟩
        · left
          refine ⟨h1,?_⟩
          rcases kn_is t i i with h4 | ⟨k,h4,h5⟩
          · exact absurd (show (knI t i i).toNat < e.length by rw [h4]; exact hpos) hk
          · refine ⟨k,h4,?_⟩
            have h7 : (knI t i i).toNat = (cmpL (evsAt t k) (evsAt t i)).2 := by rw [h5]; simp
            have h8 : e.length ≤ (cmpL (evsAt t k) (evsAt t i)).2 := by omega
            rw [he]
            exact (take_pre (hh i (by omega)) (hh k (by omega)) hlen).2 h8
      · exact .inl ⟨h1,i,by omega,h3⟩
theorem preL_nodup {t : TellingsT} (ht : goodT t = true) : ∀ n,n ≤ t.Branches.length → (preL t n).Nodup
  | 0,_ => List.nodup_nil
  | n + 1,hn => by
    have ih := preL_nodup ht n (by omega)
    have hh : ∀ i,i < t.Branches.length → histP (evsAt t i) = true := fun i hi => tell_hist (goodT_tell ht hi)
    unfold preL
    rw [List.nodup_append]
    refine ⟨ih,?_,fun a ha b hb hab => ?_⟩
    · unfold newP
      have hk := knI_le t n n
      refine List.pairwise_map.2 ?_
      have hnd : (List.range' ((knI t n n).toNat + 1) ((evsAt t n).length - (knI t n n).toNat)).Nodup := List.nodup_range'
      refine hnd.imp_of_mem fun {x y} hx hy hxy e => hxy ?_
      rw [List.mem_range'_1] at hx hy
      have := congrArg List.length e
      rw [List.length_take,List.length_take] at this
      omega
    · subst hab
      obtain ⟨h1,i,h2,h3⟩ := (preL_mem ht n (by omega)).1 ha
      obtain ⟨j,h4,h5,rfl⟩ := newP_mem.1 hb
      have h6 := (take_pre (hh n (by omega)) (hh i (by omega)) h5).1 h3
      have := kn_ge t n n i h2
      omega
theorem preL_len (t : TellingsT) : ∀ n,((preL t n).length : Int) = totI t n
  | 0 => rfl
  | n + 1 => by
    have ih := preL_len t n
    have hk := knI_le t n n
    unfold preL totI newP
    rw [List.length_append,List.length_map,List.length_range']
    omega
theorem pre_covs {t : TellingsT} (ht : goodT t = true) {e : List EventT} : e ∈ preL t t.Branches.length ↔ e ≠ [] ∧ covs t.Branches e := by
  rw [preL_mem ht _ (Nat.le_refl _)]
  refine and_congr_right fun _ => ?_
  unfold covs
  constructor
  · rintro ⟨i,hi,h⟩
    exact ⟨nth t.Branches i,nth_mem hi,h⟩
  · rintro ⟨b,hb,h⟩
    obtain ⟨i,hi,rfl⟩ := List.getElem_of_mem hb
    refine ⟨i,hi,?_⟩
    unfold evsAt
    rw [nth_eq hi]
    exact h
theorem events_mrg {a b : TellingsT} (ha : goodT a = true) (hb : goodT b = true) (hm : goodT ⟨mrgS a.Branches b.Branches⟩ = true) :
    (eventsP ⟨mrgS a.Branches b.Branches⟩).1 ≤ (eventsP a).1 + (eventsP b).1 ∧ (eventsP a).1 ≤ (eventsP ⟨mrgS a.Branches b.Branches⟩).1 ∧ (eventsP b).1 ≤ (eventsP ⟨mrgS a.Branches b.Branches⟩).1 := by
  have hc : ∀ e,covs (mrgS a.Branches b.Branches) e ↔ covs a.Branches e ∨ covs b.Branches e := fun e => mrg_covs (goodT_ris ha) (goodT_ris hb).1
  have e1 : (eventsP a).1 = ((preL a a.Branches.length).length : Int) := by unfold eventsP; rw [if_pos ha,preL_len]
  have e2 : (eventsP b).1 = ((preL b b.Branches.length).length : Int) := by unfold eventsP; rw [if_pos hb,preL_len]
  have e3 : (eventsP ⟨mrgS a.Branches b.Branches⟩).1 = ((preL ⟨mrgS a.Branches b.Branches⟩ (mrgS a.Branches b.Branches).length).length : Int) := by unfold eventsP; rw [if_pos hm,preL_len]
  have m1 := fun e => pre_covs ha (e := e)
  have m2 := fun e => pre_covs hb (e := e)
  have m3 := fun e => pre_covs hm (e := e)
  simp only at m3
  have l1 := nodup_le (preL_nodup hm _ (Nat.le_refl _)) (b := preL a a.Branches.length ++ preL b b.Branches.length) fun e he => by
    rw [List.mem_append,m1,m2]
    obtain ⟨h1,h2⟩ := (m3 e).1 he
    rcases (hc e).1 h2 with h | h
    · exact .inl ⟨h1,h⟩
    · exact .inr ⟨h1,h⟩
  have l2 := nodup_le (preL_nodup ha _ (Nat.le_refl _)) (b := preL ⟨mrgS a.Branches b.Branches⟩ (mrgS a.Branches b.Branches).length) fun e he => by
    obtain ⟨h1,h2⟩ := (m1 e).1 he
    exact (m3 e).2 ⟨h1,(hc e).2 (.inl h2)⟩
  have l3 := nodup_le (preL_nodup hb _ (Nat.le_refl _)) (b := preL ⟨mrgS a.Branches b.Branches⟩ (mrgS a.Branches b.Branches).length) fun e he => by
    obtain ⟨h1,h2⟩ := (m2 e).1 he
    exact (m3 e).2 ⟨h1,(hc e).2 (.inr h2)⟩
  rw [List.length_append] at l1
  simp only at l1
  rw [e1,e2,e3]
  omega
/-! ### The law -/
theorem sameTellings_eq (t : TellingsT) (h : midT t.Branches) : laws_sameTellings t t = some true := by
  unfold laws_sameTellings
  rw [if_neg (by simp)]
  have key := all_loop (step := laws_sameTellings_L1 t t) (fun i => (⟨i⟩ : laws_sameTellings_G1)) t.Branches.length (fun _ => true) (.inr () : Unit ⊕ Unit) (.inl ()) (fun i hi hv => ?_) (fun _ => ?_)
  · rw [key,if_pos (allN_iff.2 fun _ _ => rfl)]
    rfl
  · have hl := h.1
    have hb := h.2 i hi
    have e1 : wI ((i : Int) + 1) = ((i + 1 : Nat) : Int) := by rw [wI_id (by omega)]; omega
    unfold laws_sameTellings_L1
    simp only [Int.toNat_natCast,e1]
    rw [if_pos (by rw [decide_eq_true_eq]; omega),guard_pos (by omega),guard_pos (by omega),sameEvents_eq _ _ (by omega)]
    simp
  · unfold laws_sameTellings_L1
    dsimp only
    rw [if_neg (by simp)]
theorem drawMrgT_ok {code : List Int} (h : ∀ y ∈ code,0 ≤ y ∧ y ≤ 255) : ∃ a b,spec_DrawMergeTellings_F code = some (a,b) ∧ okT a ∧ okT b := by
  have key : okO (fun r => okT r.1 ∧ okT r.2) (spec_DrawMergeTellings_F code) := by
    unfold spec_DrawMergeTellings_F
    refine okO.bind (stem_ok (cur0 h) (by omega) (by omega)) fun r ⟨r1,r2⟩ => ?_
    refine okO.bind (tellings_ok r2 (by omega) (by omega) r1) fun a ⟨a1,a2⟩ => ?_
    exact okO.bind (tellings_ok a2 (by omega) (by omega) r1) fun b ⟨b1,b2⟩ => okO.some ⟨a1,b1⟩
  obtain ⟨⟨a,b⟩,e,h1,h2⟩ := key
  exact ⟨a,b,e,h1,h2⟩
theorem drawAdd_ok {code : List Int} (h : ∀ y ∈ code,0 ≤ y ∧ y ≤ 255) : ∃ a b,spec_DrawAddBranch code = some (a,b) ∧ okT a ∧ okH 60 b := by
  have key : okO (fun r => okT r.1 ∧ okH 60 r.2) (spec_DrawAddBranch code) := by
    unfold spec_DrawAddBranch
    refine okO.bind (stem_ok (cur0 h) (by omega) (by omega)) fun r ⟨r1,r2⟩ => ?_
    refine okO.bind (tellings_ok r2 (by omega) (by omega) r1) fun a ⟨a1,a2⟩ => ?_
    exact okO.bind (grown_ok a2 (by omega) (by omega) r1 (by omega)) fun b ⟨b1,b2⟩ => okO.some ⟨a1,okH_up b1 (by omega)⟩
  obtain ⟨⟨a,b⟩,e,h1,h2⟩ := key
  exact ⟨a,b,e,h1,h2⟩
theorem mrgD_mid (a b : TellingsT) : midT (mrgD a b).1.Branches := by
  unfold mrgD
  split
  · rename_i hc
    simp only [Bool.and_eq_true,decide_eq_true_eq] at hc
    exact ris_mid (mrg_ris (goodT_ris hc.1.1) (goodT_ris hc.1.2).1) (by simp only; omega)
  · exact ⟨by simp,fun i hi => by simp at hi⟩
theorem mrgD_comm (a b : TellingsT) : mrgD b a = mrgD a b := by
  unfold mrgD
  cases ha : goodT a
  · simp
  cases hb : goodT b
  · simp
  rw [mrg_comm (goodT_ris ha) (goodT_ris hb)]
theorem addD_mid (t : TellingsT) (h : List EventT) : midT (addD t h).1.Branches := by
  unfold addD
  split
  · rename_i hc
    simp only [Bool.and_eq_true,decide_eq_true_eq] at hc
    exact ris_mid (add_ris (goodT_ris hc.1.1) hc.1.2) (by simp only; omega)
  · exact ⟨by simp,fun i hi => by simp at hi⟩
theorem has_loop (t m : TellingsT) (g : laws_FnBranches_G1) (b0 : Bool) (c474 : TellingsT × TellingsT) (ht : nth [c474.1,c474.2] g.t133.toNat = t) (hl : t.Branches.length ≤ 1000) (hok : ok_Tellings m)
    (hb : ∀ i,i < t.Branches.length → ok_LEvent (nth t.Branches i).Events) (h : ∀ i,i < t.Branches.length → hasH m (nth t.Branches i).Events = (true,true)) :
    loopF (laws_FnBranches_L2 c474 g (m,b0)) ⟨0⟩ = some (.inr ()) := by
  have key := all_loop (step := laws_FnBranches_L2 c474 g (m,b0)) (fun i => (⟨i⟩ : laws_FnBranches_G2)) t.Branches.length (fun _ => true) (.inr () : Unit ⊕ Unit) (.inl ()) (fun i hi hv => ?_) (fun _ => ?_)
  · rw [key,if_pos (allN_iff.2 fun _ _ => rfl)]
  · have e1 : wI ((i : Int) + 1) = ((i + 1 : Nat) : Int) := by rw [wI_id (by omega)]; omega
    unfold laws_FnBranches_L2
    simp only [ht,Int.toNat_natCast,e1]
    rw [if_pos (by rw [decide_eq_true_eq]; omega),guard_pos (by omega),impl_HasHistory_eq _ _ hok (hb i hi),h i hi]
    rfl
  · unfold laws_FnBranches_L2
    simp only [ht]
    rw [if_neg (by simp)]
theorem has_mem {m t : TellingsT} (hm : goodT m = true) (ht : goodT t = true) (h : ∀ e,covs t.Branches e → covs m.Branches e) {i : Nat} (hi : i < t.Branches.length) : hasH m (nth t.Branches i).Events = (true,true) := by
  have h1 := goodT_tell ht hi
  unfold hasH
  rw [hm,h1]
  rw [if_pos (by rfl),(has_covs hm h1).2 (h _ ⟨nth t.Branches i,nth_mem hi,List.prefix_refl _⟩)]
theorem fnBranches_holds (x0 x1 : List Int) (h0 : ∀ y ∈ x0,0 ≤ y ∧ y ≤ 255) (h1 : ∀ y ∈ x1,0 ≤ y ∧ y ≤ 255) : laws_FnBranches x0 x1 = some true := by
  unfold laws_FnBranches
  by_cases hz : wI (((x0.length : Nat) : Int) + ((x1.length : Nat) : Int)) > 1048576
  · rw [if_pos (decide_eq_true hz)]
  rw [if_neg (by simpa using hz)]
  obtain ⟨a,b,hd,ha,hb⟩ := drawMrgT_ok h0
  have oa := okT_ok ha
  have ob := okT_ok hb
  rw [hd]
  simp only [Option.bind_some]
  rw [impl_MergeTellings_eq _ _ oa ob,spec_MergeTellings_eq _ _ oa ob,impl_MergeTellings_eq _ _ ob oa,mrgD_comm a b]
  simp only [Option.bind_some,beq_self_eq_true,Bool.not_true,Bool.false_eq_true,if_false]
  rw [sameTellings_eq _ (mrgD_mid a b),impl_GoodTellings_eq _ oa,spec_GoodTellings_eq _ oa]
  simp only [Option.bind_some,beq_self_eq_true,Bool.not_true,Bool.false_eq_true,if_false]
  refine bind_eq_of (x := .inl ()) ?_ ?_
  · cases hc : (goodT a && goodT b && decide ((mrgS a.Branches b.Branches).length ≤ 12))
    · have : mrgD a b = (⟨[]⟩,false) := by unfold mrgD; rw [hc]; rfl
      rw [this]; rfl
    · have e1 : mrgD a b = (⟨mrgS a.Branches b.Branches⟩,true) := by unfold mrgD; rw [hc]; rfl
      simp only [Bool.and_eq_true,decide_eq_true_eq] at hc
      obtain ⟨⟨ga,gb⟩,hl⟩ := hc
      have ra := goodT_ris ga
      have rb := goodT_ris gb
      have la := goodT_len ga
      have lb := goodT_len gb
      have om : ok_Tellings ⟨mrgS a.Branches b.Branches⟩ := mrg_ok oa ob (by omega)
      have rm := mrg_ris ra rb.1
      have gm : goodT ⟨mrgS a.Branches b.Branches⟩ = true := by rw [ris_good rm]; simpa using hl
      have hmm := mrgD_mid a b
      rw [e1] at hmm ⊢
      simp only at hmm
      have e2 : mrgD ⟨mrgS a.Branches b.Branches⟩ ⟨mrgS a.Branches b.Branches⟩ = (⟨mrgS a.Branches b.Branches⟩,true) := by
        unfold mrgD
        simp only [gm,mrg_self rm,hl]
        rfl
      have e3 : mrgD ⟨mrgS a.Branches b.Branches⟩ a = (⟨mrgS a.Branches b.Branches⟩,true) := by
        unfold mrgD
        simp only [gm,ga,mrg_again ra rb,hl]
        rfl
      have hcov : ∀ e,covs (mrgS a.Branches b.Branches) e ↔ covs a.Branches e ∨ covs b.Branches e := fun e => mrg_covs ra rb.1
      rw [if_pos rfl,impl_MergeTellings_eq _ _ om om,impl_MergeTellings_eq _ _ om oa,e2,e3]
      simp only [Option.bind_some,Bool.not_true,Bool.false_eq_true,if_false]
      rw [sameTellings_eq ⟨mrgS a.Branches b.Branches⟩ hmm,impl_GoodTellings_eq _ om,gm]
      simp only [Option.bind_some,Bool.not_true,Bool.false_eq_true,if_false]
      have hL : loopF (laws_FnBranches_L1 (a,b) (⟨mrgS a.Branches b.Branches⟩,true)) ⟨0⟩ = some (.inr ()) := by
        have key := all_loop (step := laws_FnBranches_L1 (a,b) (⟨mrgS a.Branches b.Branches⟩,true)) (fun i => (⟨i⟩ : laws_FnBranches_G1)) 2 (fun _ => true) (.inr () : Unit ⊕ Unit) (.inl ()) (fun i hi hv => ?_) (fun _ => ?_)
        · rw [key,if_pos (allN_iff.2 fun _ _ => rfl)]
        · have e1 : wI ((i : Int) + 1) = ((i + 1 : Nat) : Int) := by rw [wI_id (by omega)]; omega
          unfold laws_FnBranches_L1
          simp only [e1]
          rw [if_pos (by rw [decide_eq_true_eq]; omega),guard_pos (by omega)]
          have hh : loopF (laws_FnBranches_L2 (a,b) ⟨(i : Int)⟩ (⟨mrgS a.Branches b.Branches⟩,true)) ⟨0⟩ = some (.inr ()) := by
            have hi' : i = 0 ∨ i = 1 := by omega
            rcases hi' with rfl | rfl
            · exact has_loop a ⟨mrgS a.Branches b.Branches⟩ _ true (a,b) rfl (by omega) om (fun i hi => oa.2 _ (nth_mem hi)) fun i hi => has_mem gm ga (fun e he => (hcov e).2 (.inl he)) hi
            · exact has_loop b ⟨mrgS a.Branches b.Branches⟩ _ true (a,b) rfl (by omega) om (fun i hi => ob.2 _ (nth_mem hi)) fun i hi => has_mem gm gb (fun e he => (hcov e).2 (.inr he)) hi
          rw [hh]
          rfl
        · unfold laws_FnBranches_L1
          dsimp only
          rw [if_neg (by simp)]
      rw [hL]
      simp only [Option.bind_some]
      rw [impl_EventsIn_eq _ oa,impl_EventsIn_eq _ ob,impl_EventsIn_eq _ om]
      simp only [Option.bind_some]
      obtain ⟨v1,v2,v3⟩ := events_mrg ga gb gm
      have w1 : (eventsP a).2 = true := by unfold eventsP; rw [if_pos ga]
      have w2 : (eventsP b).2 = true := by unfold eventsP; rw [if_pos gb]
      have w3 : (eventsP ⟨mrgS a.Branches b.Branches⟩).2 = true := by unfold eventsP; rw [if_pos gm]
      have hfa : ∀ {t : TellingsT},goodT t = true → 0 ≤ (eventsP t).1 ∧ (eventsP t).1 ≤ 720 := fun {t} hg => by
        have h12 := goodT_len hg
        have := totI_le t (fun i hi => hist_len (tell_hist (goodT_tell hg hi))) t.Branches.length (Nat.le_refl _)
        unfold eventsP
        rw [if_pos hg]
        simp only
        omega
      have f1 := hfa ga
      have f2 := hfa gb
      have hw : wI ((eventsP a).1 + (eventsP b).1) = (eventsP a).1 + (eventsP b).1 := wI_id (by omega)
      rw [w1,w2,w3,hw,decide_eq_false (show ¬ (eventsP ⟨mrgS a.Branches b.Branches⟩).1 > (eventsP a).1 + (eventsP b).1 by omega),decide_eq_false (show ¬ (eventsP ⟨mrgS a.Branches b.Branches⟩).1 < (eventsP a).1 by omega),decide_eq_false (show ¬ (eventsP ⟨mrgS a.Branches b.Branches⟩).1 < (eventsP b).1 by omega)]
      simp
  · dsimp only
    obtain ⟨t,l,hd2,ht,hl⟩ := drawAdd_ok h1
    have ot := okT_ok ht
    have ol := okH_ok hl (by omega)
    rw [hd2]
    simp only [Option.bind_some]
    rw [impl_AddBranch_eq _ _ ot ol,spec_AddBranch_eq _ _ ot ol]
    simp only [Option.bind_some,beq_self_eq_true,Bool.not_true,Bool.false_eq_true,if_false]
    rw [sameTellings_eq _ (addD_mid t l)]
    simp only [Option.bind_some,Bool.not_true,Bool.false_eq_true,if_false]
    cases hc : (goodT t && tellP l && decide ((addS t.Branches l).length ≤ 12))
    · have : addD t l = (⟨[]⟩,false) := by unfold addD; rw [hc]; rfl
      rw [this]; rfl
    · have e1 : addD t l = (⟨addS t.Branches l⟩,true) := by unfold addD; rw [hc]; rfl
      simp only [Bool.and_eq_true,decide_eq_true_eq] at hc
      obtain ⟨⟨gt,gl⟩,hle⟩ := hc
      have rt := goodT_ris gt
      have ra := add_ris rt gl
      have gm : goodT ⟨addS t.Branches l⟩ = true := by rw [ris_good ra]; simpa using hle
      have om : ok_Tellings ⟨addS t.Branches l⟩ := add_ok ot (by have := ht.1; omega) ol
      rw [e1]
      simp only [Bool.not_true,Bool.false_eq_true,if_false]
      rw [impl_HasHistory_eq _ _ om ol]
      have : hasH ⟨addS t.Branches l⟩ l = (true,true) := by
        unfold hasH
        rw [gm,gl,if_pos (by rfl),(has_covs gm gl).2 ((add_covs (ris_allH rt) (tell_hist gl)).2 (.inr (List.prefix_refl _)))]
      rw [this]
      rfl
end Go.TL

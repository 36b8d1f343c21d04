import Derived.Test.YtjkeoippmlmfbaaGreatDoorG30PpOrd
import Derived.Test.YtjkeoippmlmfbaaGreatDoorG31PlR5C
import Derived.Test.YtjkeoippmlmfbaaGreatDoorG43PpMerge
import Derived.Test.YtjkeoippmlmfbaaGreatDoorG29PpDeep
set_option linter.unusedSimpArgs false
set_option linter.unusedVariables false
set_option linter.unusedVariables false
set_option linter.unusedSimpArgs false
set_option maxRecDepth 4000
namespace Go.TL
def smallB (l : List BranchT) : Prop := ∀ i, i < l.length → (nth l i).Events.length ≤ 1000
theorem ownEv_eq (l : List EventT) (h : l.length ≤ 1000) : spec_l15OwnEvents l = some l := by
  unfold spec_l15OwnEvents
  rw [guard_pos (by omega), List.nil_append]
theorem add_loop (l : List BranchT) (h : List EventT) (hl : l.length ≤ 1000) (hs : smallB l) (hh : h.length ≤ 1000) : ∀ (r : List BranchT) (i : Nat) (put : Bool) (c : List BranchT), l.drop i = r → i ≤ l.length → c.length ≤ 2 * i →
    ∃ put' c', loopF (spec_l15Add_L2 l h) ⟨put, (i : Int), c⟩ = some ⟨put', c'⟩ ∧ (if put' = true then c' else c' ++ [⟨h⟩]) = c ++ putB h r put ∧ c'.length ≤ 2 * l.length := by
  intro r
  induction r with
  | nil =>
    intro i put c hd hi hc
    have e := drop_nil hd hi
    refine ⟨put, c, loop_out ?_, ?_, by omega⟩
    · unfold spec_l15Add_L2
      dsimp only
      rw [if_neg (by rw [decide_eq_true_eq]; omega)]
    · unfold putB
      cases put <;> simp
  | cons b r ih =>
    intro i put c hd hi hc
    obtain ⟨hlt, hb, hr⟩ := drop_cons hd
    have hbs : b.Events.length ≤ 1000 := by rw [← hb]; exact hs i hlt
    have e1 : wI ((i : Int) + 1) = ((i + 1 : Nat) : Int) := by rw [wI_id (by omega)]; omega
    have ebb : (⟨b.Events⟩ : BranchT) = b := rfl
    have hstep : spec_l15Add_L2 l h ⟨put, (i : Int), c⟩ = some (.inl (if begB b.Events h = true then ⟨put, ((i + 1 : Nat) : Int), c⟩ else if ((cmpL b.Events h).1 > 0 ∧ put = false) then ⟨true, ((i + 1 : Nat) : Int), (c ++ [⟨h⟩]) ++ [b]⟩ else ⟨put, ((i + 1 : Nat) : Int), c ++ [b]⟩)) := by
      unfold spec_l15Add_L2
      simp only [Int.toNat_natCast, hb, e1]
      rw [if_pos (by rw [decide_eq_true_eq]; omega), guard_pos (by omega), spec_l15Begins_eq _ _ (by omega) (by omega)]
      simp only [Option.bind_some]
      cases hbg : begB b.Events h
      · rw [if_neg (by simp), if_neg (by simp), spec_l15Compare_eq _ _ (by omega) (by omega)]
        simp only [Option.bind_some, ownEv_eq _ hh, ownEv_eq _ hbs, ebb]
        by_cases hc1 : (cmpL b.Events h).1 > 0
        · rw [if_pos (decide_eq_true hc1)]
          cases put
          · simp only [Option.bind_some, Bool.not_false, if_true]
            rw [guard_pos (by omega), guard_pos (by omega), if_pos ⟨hc1, trivial⟩]
          · simp only [Option.bind_some, Bool.not_true, Bool.false_eq_true, if_false]
            rw [guard_pos (by omega), if_neg (by simp)]
        · rw [if_neg (by simpa using hc1)]
          simp only [Option.bind_some, Bool.false_eq_true, if_false]
          rw [guard_pos (by omega), if_neg (fun h => hc1 h.1)]
      · rw [if_pos rfl, if_pos rfl]
    rw [loop_on hstep]
    unfold putB
    by_cases hbg : begB b.Events h = true
    · rw [if_pos hbg, if_pos hbg]
      exact ih (i + 1) put c hr (by omega) (by omega)
    · rw [if_neg hbg, if_neg hbg]
      by_cases hc1 : (cmpL b.Events h).1 > 0 ∧ put = false
      · rw [if_pos hc1, if_pos hc1]
        obtain ⟨p', c', g1, g2, g3⟩ := ih (i + 1) true ((c ++ [⟨h⟩]) ++ [b]) hr (by omega) (by simp only [List.length_append, List.length_singleton]; omega)
        exact ⟨p', c', g1, by rw [g2]; simp, g3⟩
      · rw [if_neg hc1, if_neg hc1]
        obtain ⟨p', c', g1, g2, g3⟩ := ih (i + 1) put (c ++ [b]) hr (by omega) (by simp only [List.length_append, List.length_singleton]; omega)
        exact ⟨p', c', g1, by rw [g2]; simp, g3⟩
def addS (l : List BranchT) (h : List EventT) : List BranchT := if (l.any fun b => begB h b.Events) = true then l else putB h l false
theorem spec_l15Add_eq (l : List BranchT) (h : List EventT) (hl : l.length ≤ 1000) (hs : smallB l) (hh : h.length ≤ 1000) : spec_l15Add l h = some (addS l h) := by
  unfold spec_l15Add addS
  have key := find_loop (step := spec_l15Add_L1 l h) (fun i => (⟨i⟩ : spec_l15Add_G1)) l.length (fun i => begB h (nth l i).Events) (fun _ => (.inl () : Unit ⊕ Unit)) (.inr ()) (fun i hi hv => ?_) ?_
  · have e : loopF (spec_l15Add_L1 l h) ⟨0⟩ = some (if (l.any fun b => begB h b.Events) = true then .inl () else .inr ()) := by
      rw [key]
      have := findN_any l fun b => begB h b.Events
      cases hf : findN (fun i => begB h (nth l i).Events) l.length with
      | none => rw [hf] at this; rw [← this]; rfl
      | some k => rw [hf] at this; rw [← this]; rfl
    rw [e]
    simp only [Option.bind_some]
    cases l.any fun b => begB h b.Events
    · simp only [Bool.false_eq_true, if_false]
      obtain ⟨p', c', g1, g2, g3⟩ := add_loop l h hl hs hh l 0 false [] rfl (by omega) (by simp)
      have e0 : ((0 : Nat) : Int) = 0 := rfl
      rw [e0] at g1
      rw [g1]
      simp only [Option.bind_some, ownEv_eq _ hh]
      rw [List.nil_append] at g2
      rw [← g2]
      cases p'
      · rw [if_pos (by rfl), guard_pos (by omega)]; rfl
      · rfl
    · rfl
  · unfold spec_l15Add_L1
    have hi' : i < l.length := hi
    have hbs := hs i hi'
    have e1 : wI ((i : Int) + 1) = ((i + 1 : Nat) : Int) := by rw [wI_id (by omega)]; omega
    simp only [Int.toNat_natCast, e1]
    rw [if_pos (by rw [decide_eq_true_eq]; omega), guard_pos (by omega), spec_l15Begins_eq _ _ (by omega) (by omega)]
    simp only [Option.bind_some]
    cases begB h (nth l i).Events <;> rfl
  · unfold spec_l15Add_L1
    dsimp only
    rw [if_neg (by simp)]
theorem spec_l15Own_eq (t : TellingsT) (hl : t.Branches.length ≤ 1000) (hs : smallB t.Branches) : spec_l15Own t = some t := by
  unfold spec_l15Own
  have key := accL_loop (step := spec_l15Own_L1 t) (fun i c => (⟨i, c⟩ : spec_l15Own_G1)) t.Branches.length (fun i => t.Branches.take i) (fun c => (⟨c⟩ : spec_l15Own_P1_0)) (fun i hi => ?_) ?_
  · simp only [List.take_zero, List.take_length] at key
    rw [key]; rfl
  · have ht : (t.Branches.take i).length = i := by rw [List.length_take]; omega
    have e1 : wI ((i : Int) + 1) = ((i + 1 : Nat) : Int) := by rw [wI_id (by omega)]; omega
    unfold spec_l15Own_L1
    simp only [Int.toNat_natCast, e1, ← take_snoc hi]
    rw [if_pos (by rw [decide_eq_true_eq]; omega), guard_pos (by omega), ownEv_eq _ (hs i hi)]
    simp only [Option.bind_some]
    rw [guard_pos (by omega)]
  · unfold spec_l15Own_L1
    dsimp only
    rw [if_neg (by simp)]
theorem putB_len (h : List EventT) (l : List BranchT) : (putB h l false).length ≤ l.length + 1 := by
  have h1 := (putB_perm h l).length_eq
  have h2 := List.length_filter_le (fun b : BranchT => !begB b.Events h) l
  unfold leaves at h1
  rw [List.length_append, List.length_singleton] at h1
  omega
theorem addS_len (l : List BranchT) (h : List EventT) : (addS l h).length ≤ l.length + 1 := by
  unfold addS
  split
  · omega
  · exact putB_len h l
theorem addS_mem {l : List BranchT} {h : List EventT} {b : BranchT} (hb : b ∈ addS l h) : b ∈ l ∨ b = ⟨h⟩ := by
  unfold addS at hb
  split at hb
  · exact .inl hb
  · rcases List.mem_append.1 ((putB_perm h l).mem_iff.1 hb) with e | e
    · exact .inl (List.mem_filter.1 e).1
    · exact .inr (List.mem_singleton.1 e)
theorem begB_ge {x y : List EventT} (h : begB y x = true) : 0 ≤ (cmpL x y).1 := by
  unfold begB at h
  rw [decide_eq_true_eq, cmpL_snd] at h
  cases hf : firstD x y with
  | some i =>
    rw [hf] at h
    unfold firstD at hf
    have := (findN_lt hf).1
    simp only at h
    omega
  | none =>
    rw [hf] at h
    simp only at h
    unfold cmpL
    rw [hf]
    simp only
    rw [if_neg (by omega)]
    split <;> simp
theorem begB_self {h : List EventT} (hh : histP h = true) : begB h h = true := (begB_iff hh hh).2 ⟨Nat.le_refl _, fun _ _ => rfl⟩
theorem not_same {b h : List EventT} (hb : histP b = true) (hh : histP h = true) (hn : begB b h = false) : (cmpL b h).1 ≠ 0 := fun e => by
  have := (evs_same hb hh).1 e
  rw [this, begB_self hh] at hn
  cases hn
theorem goodT_iff (l : List BranchT) : goodT ⟨l⟩ = true ↔ l.length ≤ 12 ∧ (∀ b ∈ l, tellP b.Events = true) ∧ l.Pairwise fun a b => brL a b = true ∧ begB a.Events b.Events = false := by
  unfold goodT
  simp only [Bool.and_eq_true, decide_eq_true_eq, allN_iff, Bool.not_eq_true']
  constructor
  · rintro ⟨h1, h2⟩
    refine ⟨h1, fun b hb => ?_, ?_⟩
    · obtain ⟨i, hi, rfl⟩ := List.getElem_of_mem hb
      have := (h2 i hi).1
      rwa [nth_eq hi] at this
    · rw [List.pairwise_iff_getElem]
      intro k i hk hi hki
      have := (h2 i hi).2 k hki
      rw [nth_eq hk, nth_eq hi] at this
      exact ⟨brL_iff.2 this.1, this.2⟩
  · rintro ⟨h1, h2, h3⟩
    refine ⟨h1, fun i hi => ⟨?_, fun k hk => ?_⟩⟩
    · rw [nth_eq hi]; exact h2 _ (List.getElem_mem _)
    · have := List.pairwise_iff_getElem.1 h3 k i (by omega) hi hk
      rw [nth_eq (show k < l.length by omega), nth_eq hi]
      exact ⟨brL_iff.1 this.1, this.2⟩
/-- Branches of histories, rising, none a beginning of another; their number aside. -/
def risT (l : List BranchT) : Prop := (∀ b ∈ l, tellP b.Events = true) ∧ l.Pairwise fun a b => brL a b = true ∧ begB a.Events b.Events = false
theorem ris_good {l : List BranchT} (h : risT l) : goodT ⟨l⟩ = decide (l.length ≤ 12) := by
  by_cases h1 : l.length ≤ 12
  · rw [(goodT_iff l).2 ⟨h1, h⟩]; simp [h1]
  · cases hg : goodT ⟨l⟩
    · simp [h1]
    · exact absurd ((goodT_iff l).1 hg).1 h1
theorem add_ris {l : List BranchT} {h : List EventT} (hl : risT l) (hh : tellP h = true) : risT (addS l h) := by
  unfold addS
  split
  · exact hl
  · rename_i ha
    have hno : ∀ b ∈ l, begB h b.Events = false := fun b hb => by
      cases e : begB h b.Events
      · rfl
      · exact absurd (List.any_eq_true.2 ⟨b, hb, e⟩) ha
    refine ⟨fun b hb => ?_, ?_⟩
    · rcases List.mem_append.1 ((putB_perm h l).mem_iff.1 hb) with e | e
      · exact hl.1 b (List.mem_filter.1 e).1
      · rw [List.mem_singleton.1 e]; exact hh
    · have hasc := putB_asc h l (hl.2.imp fun h => h.1) fun b hb hn => not_same (tell_hist (hl.1 b hb)) (tell_hist hh) hn
      have hS : l.Pairwise fun a b => begB a.Events b.Events = false ∧ begB b.Events a.Events = false := hl.2.imp fun {a b} ⟨h1, h2⟩ => ⟨h2, by
        cases e : begB b.Events a.Events
        · rfl
        · have := begB_ge e
          have := brL_iff.1 h1
          omega⟩
      have hS2 : (leaves h l ++ [(⟨h⟩ : BranchT)]).Pairwise fun a b => begB a.Events b.Events = false ∧ begB b.Events a.Events = false := by
        rw [List.pairwise_append]
        refine ⟨hS.filter _, by simp, fun a ha b hb => ?_⟩
        rw [List.mem_singleton.1 hb]
        have ha' := List.mem_filter.1 ha
        exact ⟨by simpa using ha'.2, hno a ha'.1⟩
      have hS3 := ((putB_perm h l).pairwise_iff (R := fun a b : BranchT => begB a.Events b.Events = false ∧ begB b.Events a.Events = false) fun h => ⟨h.2, h.1⟩).2 hS2
      exact (hasc.and hS3).imp fun ⟨a, b⟩ => ⟨a, b.1⟩
theorem goodT_ris {t : TellingsT} (h : goodT t = true) : risT t.Branches := ((goodT_iff t.Branches).1 h).2
def addD (t : TellingsT) (h : List EventT) : TellingsT × Bool := if (goodT t && tellP h && decide ((addS t.Branches h).length ≤ 12)) = true then (⟨addS t.Branches h⟩, true) else (⟨[]⟩, false)
theorem add_ok {l : List BranchT} {h : List EventT} (hl : ok_LBranch l) (hn : l.length ≤ 1000) (hh : ok_LEvent h) : ok_Tellings ⟨addS l h⟩ := by
  refine ⟨by have := addS_len l h; show (addS l h).length ≤ _; omega, fun y hy => ?_⟩
  rcases addS_mem hy with e | e
  · exact hl.2 y e
  · rw [e]; exact hh
theorem spec_AddBranch_eq (t : TellingsT) (h : List EventT) (ht : ok_Tellings t) (hh : ok_LEvent h) : spec_AddBranch t h = some (addD t h) := by
  unfold spec_AddBranch addD
  rw [spec_GoodTellings_eq _ ht, spec_l15History_eq _ hh]
  simp only [Option.bind_some]
  cases hg : goodT t
  · simp
  cases ht2 : tellP h
  · simp
  have h12 := goodT_len hg
  have hsm : smallB t.Branches := fun i hi => Nat.le_trans (hist_len (tell_hist (goodT_tell hg hi))) (by omega)
  have hhl := hist_len (tell_hist ht2)
  have hal := addS_len t.Branches h
  have hr := add_ris (goodT_ris hg) ht2
  have hsm2 : smallB (addS t.Branches h) := fun i hi => Nat.le_trans (hist_len (tell_hist (hr.1 _ (nth_mem hi)))) (by omega)
  rw [if_neg (by simp)]
  simp only [Option.bind_some]
  rw [if_neg (by simp), spec_l15Add_eq _ _ (by omega) hsm (by omega)]
  simp only [Option.bind_some]
  rw [spec_l15Own_eq ⟨addS t.Branches h⟩ (by show (addS t.Branches h).length ≤ 1000; omega) hsm2]
  simp only [Option.bind_some]
  rw [spec_GoodTellings_eq _ (add_ok ht (by omega) hh), ris_good hr]
  simp only [Option.bind_some, Bool.true_and]
  by_cases hc : (addS t.Branches h).length ≤ 12 <;> simp [hc]
end Go.TL
set_option linter.unusedVariables false
set_option linter.unusedSimpArgs false
set_option maxRecDepth 4000
namespace Go.TL
theorem spec_l12Fold_w_eq (l : List EventT) (hl : ok_LEvent l) : spec_l12Fold_w l = some ((foldP l).1, (((foldP l).2 : Nat) : Int)) := by
  unfold spec_l12Fold_w spec_NewState
  simp only [Option.bind_some]
  obtain ⟨y, hy, he⟩ := spec_fold_w_loop l hl l 0 newS rfl (by omega) newS_good
  have hy' : loopF (spec_l12Fold_w_L1 l) ⟨0, 0, 1, false, 0, [], []⟩ = some y := hy
  rw [hy']
  simp only [Option.bind_some]
  cases y with
  | inl p => exact he
  | inr p => exact he
theorem nth_take_le {l : List EventT} {n k : Nat} (h : okH n l) : okH n (l.take k) := ⟨by have := h.1; rw [List.length_take]; omega, fun e he => h.2 e (List.mem_of_mem_take he)⟩
set_option maxHeartbeats 1000000 in
theorem grown_ok {c : l1CurT} {K : Int} {h : List EventT} {n : Nat} (hc : cur c K) (h0 : 0 ≤ K) (hK : K ≤ 4611686018427380000) (hh : okH n h) (hn : n ≤ 60) : okO (fun r => okH (n + 3) r.1 ∧ cur r.2 (K + 40)) (spec_l1Cur_grown_o_F c h) := by
  unfold spec_l1Cur_grown_o_F
  refine okO.bind (P := fun p => okH n p.t1) ?_ fun p hp => ?_
  · rw [spec_IsHistory_eq _ (okH_ok hh (by omega))]
    exact okO.bind_some (okO.ite (fun _ => okO.some ⟨by simp, fun e he => by simp at he⟩) (fun _ => okO.some hh))
  have hpl := hp.1
  have hw : wI (((p.t1.length : Nat) : Int) + 1) = ((p.t1.length : Nat) : Int) + 1 := wI_id (by omega)
  rw [hw]
  refine pick_b hc (by omega) (by omega) fun x1 c1 p1 _ q1 h1 => ?_
  have q1 := q1 (by omega)
  dsimp only
  refine okO.guard ⟨p1, by omega⟩ ?_
  have hl := nth_take_le (k := x1.toNat) hp
  have hll := hl.1
  rw [ownEv_eq _ (by omega)]
  refine okO.bind_some ?_
  rw [spec_l12Fold_w_eq _ (okH_ok hl (by omega))]
  refine okO.bind_some ?_
  refine pick_b h1 (by omega) (by omega) fun x2 c2 p2 _ q2 h2 => ?_
  have q2 := q2 (by omega)
  refine okO.bind (P := fun q => ok_I q.t8 ∧ cur ⟨q.b0_0, q.b0_1, q.b0_2⟩ (K + 8)) ?_ fun q ⟨n1, n2⟩ => ?_
  · refine okO.ite (fun hc => ?_) (fun _ => okO.some ⟨(⟨by omega, by omega⟩ : ok_I x2), h2.up (by omega)⟩)
    have hc' := of_decide_eq_true hc
    have hw2 : wI ((((p.t1.take x1.toNat).length : Nat) : Int) - 1) = (((p.t1.take x1.toNat).length : Nat) : Int) - 1 := wI_id (by omega)
    refine okO.guard (by rw [hw2]; omega) ?_
    exact pick_b h2 (by omega) (by omega) fun x3 c3 _ _ _ h3 => okO.some ⟨wI_range _, h3.up (by omega)⟩
  refine pick_b n2 (by omega) (by omega) fun x3 c3 p3 _ q3 h3 => ?_
  have q3 := q3 (by omega)
  have hst := goodSt_small (foldP_good (p.t1.take x1.toNat))
  refine okO.bind (P := fun y => okH (n + 3) y.c1 ∧ cur ⟨y.b0_0, y.b0_1, y.b0_2⟩ (K + 40)) ?_ fun y hy => okO.some hy
  refine okO.loop (fun g => 0 ≤ g.t9 ∧ g.t9 ≤ 3 ∧ ok_I g.t8 ∧ okH (n + (3 - g.t9).toNat) g.c1 ∧ okSt (30 + (3 - g.t9).toNat) ⟨g.b2_0, g.b2_1, g.b2_2, g.b2_3, g.b2_4, g.b2_5⟩ ∧ cur ⟨g.b0_0, g.b0_1, g.b0_2⟩ (K + 10 + 8 * (3 - g.t9))) (fun g => g.t9.toNat)
    ⟨p3, by simp only; omega, n1, okH_up hl (by simp only; omega), ⟨okN_up hst.1 (by simp only; omega), okN_up hst.2.1 (by simp only; omega), hst.2.2⟩, h3.up (by simp only; omega)⟩ fun g ⟨g1, g2, g3, g4, g5, g6⟩ => ?_
  unfold spec_l1Cur_grown_o_F_L1
  refine okO.ite (fun hc => ?_) (fun hc => okO.some ⟨okH_up g4 (by omega), g6.up (by omega)⟩)
  have hc' : g.t9 > 0 := by simpa using hc
  have hw : wI (g.t9 - 1) = g.t9 - 1 := wI_id (by omega)
  refine among_m g6 (by omega) (by simp) fun y5 c5 hy5 h5 => ?_
  refine of_m h5 (by omega) (by simp) fun t6 c6 ht6 h6 => ?_
  have ht6 := mem_small (by decide) ht6
  refine okO.bind (P := fun p => ok_I p.b3_2) ?_ fun p hp => ?_
  · exact okO.ite (fun _ => okO.some ⟨by simp, by simp⟩) (fun _ => okO.some (mem_int (by decide) hy5))
  have hev : okE ⟨g.b2_1, g.t8, p.b3_2, t6⟩ := ⟨g5.2.2, g3, hp, ht6⟩
  refine okO.bind (apply_total g5 (by omega) ht6) fun r hr => ?_
  have e12 : (3 - (g.t9 - 1)).toNat = (3 - g.t9).toNat + 1 := by omega
  have hgl := g4.1
  refine okO.ite (fun _ => ?_) (fun _ => ?_)
  · refine okO.guard (by omega) ?_
    refine pick_b h6 (by omega) (by omega) fun x7 c7 _ _ _ h7 => okO.some ?_
    simp only [hw]
    exact ⟨⟨by omega, by omega, wI_range _, by rw [e12]; exact okH_add g4 hev, by rw [e12]; exact hr, h7.up (by omega)⟩, by omega⟩
  · refine pick_b h6 (by omega) (by omega) fun x7 c7 _ _ _ h7 => okO.some ?_
    simp only [hw]
    exact ⟨⟨by omega, by omega, wI_range _, okH_up g4 (by omega), ⟨okN_up g5.1 (by omega), okN_up g5.2.1 (by omega), g5.2.2⟩, h7.up (by omega)⟩, by omega⟩
theorem stem_ok {c : l1CurT} {K : Int} (hc : cur c K) (h0 : 0 ≤ K) (hK : K ≤ 4611686018427370000) : okO (fun r => okH 9 r.1 ∧ cur r.2 (K + 130)) (spec_l1Cur_stem_o_F c) := by
  unfold spec_l1Cur_stem_o_F
  refine okO.bind (grown_ok (n := 0) hc h0 (by omega) ⟨by simp, fun e he => by simp at he⟩ (by omega)) fun r ⟨r1, r2⟩ => ?_
  refine pick_b r2 (by omega) (by omega) fun x1 c1 p1 _ q1 h1 => ?_
  have q1 := q1 (by omega)
  refine okO.bind (P := fun y => okH 9 y.t3 ∧ cur ⟨y.b0_0, y.b0_1, y.b0_2⟩ (K + 130)) ?_ fun y hy => okO.some hy
  refine okO.loop (fun g => 0 ≤ g.t4 ∧ g.t4 ≤ 2 ∧ okH (3 + 3 * (2 - g.t4).toNat) g.t3 ∧ cur ⟨g.b0_0, g.b0_1, g.b0_2⟩ (K + 42 + 40 * (2 - g.t4))) (fun g => g.t4.toNat)
    ⟨p1, by simp only; omega, okH_up r1 (by simp only; omega), h1.up (by simp only; omega)⟩ fun g ⟨g1, g2, g3, g4⟩ => ?_
  unfold spec_l1Cur_stem_o_F_L1
  refine okO.ite (fun hc => ?_) (fun hc => okO.some ⟨okH_up g3 (by omega), g4.up (by omega)⟩)
  have hc' : g.t4 > 0 := by simpa using hc
  have hw : wI (g.t4 - 1) = g.t4 - 1 := wI_id (by omega)
  refine okO.bind (grown_ok g4 (by omega) (by omega) g3 (by omega)) fun r ⟨s1, s2⟩ => ?_
  refine okO.ite (fun _ => okO.some ?_) (fun _ => okO.some ?_)
  · simp only [hw]
    exact ⟨⟨by omega, by omega, okH_up s1 (by omega), s2.up (by omega)⟩, by omega⟩
  · simp only [hw]
    exact ⟨⟨by omega, by omega, okH_up g3 (by omega), s2.up (by omega)⟩, by omega⟩
/-- Tellings of a bounded size. -/
abbrev okT (t : TellingsT) : Prop := t.Branches.length ≤ 16 ∧ ∀ b ∈ t.Branches, okH 60 b.Events
theorem okT_ok {t : TellingsT} (h : okT t) : ok_Tellings t := ⟨by have := h.1; omega, fun b hb => okH_ok (h.2 b hb) (by omega)⟩
theorem addD_okT {t : TellingsT} {h : List EventT} (ht : okT t) (hh : okH 60 h) : okT (addD t h).1 := by
  unfold addD
  split
  · rename_i hc
    simp only [Bool.and_eq_true, decide_eq_true_eq] at hc
    refine ⟨by show (addS t.Branches h).length ≤ 16; omega, fun b hb => ?_⟩
    rcases addS_mem hb with e | e
    · exact ht.2 b e
    · rw [e]; exact hh
  · exact ⟨by simp, fun b hb => by simp at hb⟩
set_option maxHeartbeats 1000000 in
theorem tellings_ok {c : l1CurT} {K : Int} {h : List EventT} (hc : cur c K) (h0 : 0 ≤ K) (hK : K ≤ 4611686018427360000) (hh : okH 9 h) : okO (fun r => okT r.1 ∧ cur r.2 (K + 900)) (spec_l1Cur_tellings_o c h) := by
  unfold spec_l1Cur_tellings_o
  refine pick_b hc (by omega) (by omega) fun x1 c1 p1 _ q1 h1 => ?_
  have q1 := q1 (by omega)
  refine okO.bind (P := fun p => 0 ≤ p.t6 ∧ p.t6 ≤ 16 ∧ cur ⟨p.b0_0, p.b0_1, p.b0_2⟩ (K + 4)) ?_ fun p ⟨m1, m2, m3⟩ => ?_
  · exact one_b h1 (by omega) (by omega) fun b c2 h2 => okO.ite (fun _ => okO.some ⟨by simp only; omega, by simp only; omega, h2.up (by omega)⟩) (fun _ => okO.some ⟨p1, by simp only; omega, h2.up (by omega)⟩)
  refine okO.bind (P := fun y => okT ⟨y.c3⟩ ∧ cur ⟨y.b0_0, y.b0_1, y.b0_2⟩ (K + 650)) ?_ fun y ⟨y1, y2⟩ => ?_
  · refine okO.loop (fun g => 0 ≤ g.t6 ∧ g.t6 ≤ 16 ∧ okT ⟨g.c3⟩ ∧ cur ⟨g.b0_0, g.b0_1, g.b0_2⟩ (K + 4 + 40 * (16 - g.t6))) (fun g => g.t6.toNat)
      ⟨m1, m2, ⟨by simp, fun b hb => by simp at hb⟩, m3.up (by simp only; omega)⟩ fun g ⟨g1, g2, g3, g4⟩ => ?_
    unfold spec_l1Cur_tellings_o_L1
    refine okO.ite (fun hc => ?_) (fun hc => okO.some ⟨g3, g4.up (by omega)⟩)
    have hc' : g.t6 > 0 := by simpa using hc
    have hw : wI (g.t6 - 1) = g.t6 - 1 := wI_id (by omega)
    refine okO.bind (grown_ok g4 (by omega) (by omega) hh (by omega)) fun r ⟨s1, s2⟩ => ?_
    rw [spec_AddBranch_eq _ _ (okT_ok g3) (okH_ok s1 (by omega))]
    refine okO.bind_some (okO.ite (fun _ => okO.some ?_) (fun _ => okO.some ?_))
    · simp only [hw]
      exact ⟨⟨by omega, by omega, addD_okT g3 (okH_up s1 (by omega)), s2.up (by omega)⟩, by omega⟩
    · simp only [hw]
      exact ⟨⟨by omega, by omega, g3, s2.up (by omega)⟩, by omega⟩
  have hyl := y1.1
  simp only at hyl
  refine okO.bind (P := fun q => cur ⟨q.b0_0, q.b0_1, q.b0_2⟩ (K + 652) ∧ (q.t36 = true → 0 < y.c3.length)) ?_ fun q ⟨n1, n2⟩ => ?_
  · refine okO.ite (fun hc => ?_) (fun _ => okO.some ⟨y2.up (by omega), fun h => by cases h⟩)
    have hc' := of_decide_eq_true hc
    exact one_b y2 (by omega) (by omega) fun b c2 h2 => okO.some ⟨h2.up (by omega), fun _ => by omega⟩
  refine okO.ite (fun hc => ?_) (fun _ => okO.some ⟨y1, n1.up (by omega)⟩)
  have hpos := n2 hc
  refine pick_b n1 (by omega) (by omega) fun x5 c5 p5 _ q5 h5 => ?_
  have q5 := q5 (by omega)
  refine okO.bind (history_ok h5 (by omega) (by omega)) fun r ⟨r1, r2⟩ => okO.guard ⟨p5, q5⟩ (okO.some ⟨⟨by simp only [List.length_set]; omega, fun b hb => ?_⟩, r2.up (by omega)⟩)
  rcases List.mem_or_eq_of_mem_set hb with e | e
  · exact y1.2 b e
  · rw [e]; exact okH_up r1 (by omega)
theorem drawT_ok {code : List Int} (h : ∀ y ∈ code, 0 ≤ y ∧ y ≤ 255) : ∃ t, spec_DrawGoodTellings code = some t ∧ okT t := by
  have key : okO okT (spec_DrawGoodTellings code) := by
    unfold spec_DrawGoodTellings
    refine okO.bind (stem_ok (cur0 h) (by omega) (by omega)) fun r ⟨r1, r2⟩ => ?_
    exact okO.bind (tellings_ok r2 (by omega) (by omega) r1) fun q ⟨q1, _⟩ => okO.some q1
  exact key
theorem drawLess_ok {code : List Int} (h : ∀ y ∈ code, 0 ≤ y ∧ y ≤ 255) : ∃ a b, spec_DrawBranchLess code = some (a, b) ∧ okH 60 a ∧ okH 60 b := by
  have key : okO (fun r => okH 60 r.1 ∧ okH 60 r.2) (spec_DrawBranchLess code) := by
    unfold spec_DrawBranchLess
    refine okO.bind (stem_ok (cur0 h) (by omega) (by omega)) fun r ⟨r1, r2⟩ => ?_
    refine okO.bind (grown_ok r2 (by omega) (by omega) r1 (by omega)) fun a ⟨a1, a2⟩ => ?_
    exact okO.bind (grown_ok a2 (by omega) (by omega) r1 (by omega)) fun b ⟨b1, b2⟩ => okO.some ⟨okH_up a1 (by omega), okH_up b1 (by omega)⟩
  obtain ⟨⟨a, b⟩, e, h1, h2⟩ := key
  exact ⟨a, b, e, h1, h2⟩
end Go.TL
set_option linter.unusedVariables false
set_option linter.unusedSimpArgs false
set_option maxRecDepth 4000
namespace Go.TL
theorem sameEvents_eq (a b : List EventT) (ha : a.length ≤ 9223372036854775807) : laws_sameEvents a b = some (decide (a = b)) := by
  unfold laws_sameEvents
  by_cases hl : a.length = b.length
  · rw [if_neg (by simp [hl])]
    have key := eq_loop (step := laws_sameEvents_L1 a b) (fun i => (⟨i⟩ : laws_sameEvents_G1)) a b hl (fun i hi => ?_) ?_
    · rw [key]; by_cases h : a = b <;> simp [h]
    · unfold laws_sameEvents_L1
      simp (disch := omega) only [decide_eq_true_eq, if_pos, guard_pos, Int.toNat_natCast, wI_id]
      rw [evEq]
      by_cases h : nth a i = nth b i <;> simp [h]
    · unfold laws_sameEvents_L1
      rw [if_neg (by simp)]
  · rw [if_pos (by simp; omega)]
    simp [show a ≠ b from fun h => hl (by rw [h])]
theorem cur_great (l : List BranchT) : ∀ n i, i ≤ n → lastV (bev l i) ≤ lastV (bev l (curI l n))
  | 0, i, h => by
    have : i = 0 := by omega
    subst this
    exact Int.le_refl _
  | n + 1, i, h => by
    unfold curI
    have ih := cur_great l n
    by_cases hi : i = n + 1
    · subst hi
      split
      · exact Int.le_refl _
      · rename_i hb
        unfold betB at hb
        simp only [Bool.or_eq_true, Bool.and_eq_true, decide_eq_true_eq, not_or, not_and] at hb
        omega
    · have := ih i (by omega)
      split
      · rename_i hb
        unfold betB at hb
        simp only [Bool.or_eq_true, Bool.and_eq_true, decide_eq_true_eq] at hb
        omega
      · exact this
def eqS (n : ByteArray) (o : ByteArray) : Bool := o.toList == n.toList
theorem any_snoc {l : List ByteArray} {p : ByteArray → Bool} {i : Nat} (h : i < l.length) : (l.take (i + 1)).any p = ((l.take i).any p || p (nth l i)) := by
  rw [← take_snoc h, List.any_append]
  simp
theorem l3_eq (c505 c524 : List ByteArray × Bool) (g : laws_FnCurrent_G2) (hl : c505.1.length ≤ 1000000) (b0 : Bool) :
    loopF (laws_FnCurrent_L3 c505 c524 g) ⟨b0, 0⟩ = some ⟨b0 || c505.1.any (eqS (nth c524.1 g.t127.toNat))⟩ := by
  have key := accL_loop (step := laws_FnCurrent_L3 c505 c524 g) (fun i c => (⟨c, i⟩ : laws_FnCurrent_G3)) c505.1.length (fun i => b0 || (c505.1.take i).any (eqS (nth c524.1 g.t127.toNat))) (fun c => (⟨c⟩ : laws_FnCurrent_P3_0)) (fun i hi => ?_) ?_
  · simp only [List.take_zero, List.take_length, List.any_nil, Bool.or_false] at key
    exact key
  · have e1 : wI ((i : Int) + 1) = ((i + 1 : Nat) : Int) := by rw [wI_id (by omega)]; omega
    unfold laws_FnCurrent_L3
    simp only [Int.toNat_natCast, e1]
    rw [if_pos (by rw [decide_eq_true_eq]; omega), guard_pos (by omega), any_snoc hi]
    cases b0 <;> cases (c505.1.take i).any (eqS (nth c524.1 g.t127.toNat)) <;> simp [eqS]
  · unfold laws_FnCurrent_L3
    dsimp only
    rw [if_neg (by simp)]
theorem l4_eq (c505 c524 : List ByteArray × Bool) (g : laws_FnCurrent_G2) (hl : c505.1.length ≤ 1000000) (b0 : Bool) :
    loopF (laws_FnCurrent_L4 c505 c524 g) ⟨b0, 0⟩ = some ⟨b0 || c505.1.any (eqS (nth c524.1 g.t127.toNat))⟩ := by
  have key := accL_loop (step := laws_FnCurrent_L4 c505 c524 g) (fun i c => (⟨c, i⟩ : laws_FnCurrent_G4)) c505.1.length (fun i => b0 || (c505.1.take i).any (eqS (nth c524.1 g.t127.toNat))) (fun c => (⟨c⟩ : laws_FnCurrent_P4_0)) (fun i hi => ?_) ?_
  · simp only [List.take_zero, List.take_length, List.any_nil, Bool.or_false] at key
    exact key
  · have e1 : wI ((i : Int) + 1) = ((i + 1 : Nat) : Int) := by rw [wI_id (by omega)]; omega
    unfold laws_FnCurrent_L4
    simp only [Int.toNat_natCast, e1]
    rw [if_pos (by rw [decide_eq_true_eq]; omega), guard_pos (by omega), any_snoc hi]
    cases b0 <;> cases (c505.1.take i).any (eqS (nth c524.1 g.t127.toNat)) <;> simp [eqS]
  · unfold laws_FnCurrent_L4
    dsimp only
    rw [if_neg (by simp)]
theorem eqS_mem {l : List ByteArray} {n : ByteArray} (h : n ∈ l) : l.any (eqS n) = true := List.any_eq_true.2 ⟨n, h, by simp [eqS]⟩
theorem l2_eq (c524 c505 c500 : List ByteArray × Bool) (h5 : c505.1.length ≤ 1000000) (h0 : c500.1.length ≤ 1000000) (h2 : c524.1.length ≤ 1000000) (h : ∀ n ∈ c524.1, n ∈ c505.1 ∨ n ∈ c500.1) :
    loopF (laws_FnCurrent_L2 c524 c505 c500) ⟨0⟩ = some (.inr ()) := by
  have key := all_loop (step := laws_FnCurrent_L2 c524 c505 c500) (fun i => (⟨i⟩ : laws_FnCurrent_G2)) c524.1.length (fun _ => true) (.inr () : Unit ⊕ Unit) (.inl ()) (fun i hi hv => ?_) (fun _ => ?_)
  · rw [key, if_pos (allN_iff.2 fun _ _ => rfl)]
  · have e1 : wI ((i : Int) + 1) = ((i + 1 : Nat) : Int) := by rw [wI_id (by omega)]; omega
    unfold laws_FnCurrent_L2
    rw [if_pos (by rw [decide_eq_true_eq]; simp only; omega), guard_pos (by simp only; omega), l3_eq _ _ _ h5]
    simp only [Option.bind_some]
    rw [l4_eq _ _ _ h0]
    simp only [Option.bind_some, Bool.false_or, Int.toNat_natCast, e1]
    have hn := h (nth c524.1 i) (nth_mem hi)
    have : (c505.1.any (eqS (nth c524.1 i)) || c500.1.any (eqS (nth c524.1 i))) = true := by
      rcases hn with hn | hn
      · rw [eqS_mem hn]; rfl
      · rw [eqS_mem hn]; simp
    rw [this]
    rfl
  · unfold laws_FnCurrent_L2
    dsimp only
    rw [if_neg (by simp)]
theorem sig_lost {t : TellingsT} (hg : goodT t = true) {i : Nat} (hi : i < t.Branches.length) {n : ByteArray} (hn : n ∈ sigL (nth t.Branches i).Events) : n ∈ ownS t ∨ n ∈ lostA t := by
  cases ho : hasS (ownS t) n
  · right
    have := (stps_ok (ownS t) (allS t.Branches) [] (by simp [ascS])).2 n
    unfold lostA
    rw [this]
    refine .inr ⟨?_, ho⟩
    unfold allS
    rw [List.mem_flatMap]
    exact ⟨nth t.Branches i, nth_mem hi, hn⟩
  · exact .inl (hasS_iff.1 ho)
theorem last_idx {l : List EventT} (h1 : 0 < l.length) (h2 : l.length ≤ 1000) : wI (((l.length : Nat) : Int) - 1) = ((l.length - 1 : Nat) : Int) := by rw [wI_id (by omega)]; omega
theorem curr_loop (t : TellingsT) (hg : goodT t = true) (h0 : 0 < t.Branches.length) :
    loopF (laws_FnCurrent_L1 t (curE t, true) (sigP (curE t)) (lostA t, true)) ⟨0, t.Branches⟩ = some (.inr ()) := by
  obtain ⟨⟨h12, hf⟩, ho⟩ := goodT_fit hg
  have hce : curE t = bev t.Branches (curI t.Branches (t.Branches.length - 1)) := by unfold curE; rw [if_neg (by omega)]
  have hci := curI_le t.Branches (t.Branches.length - 1)
  have hc := hf _ (show curI t.Branches (t.Branches.length - 1) < t.Branches.length by omega)
  have hch := good_hist hg (show curI t.Branches (t.Branches.length - 1) < t.Branches.length by omega)
  have hcs : sigP (curE t) = (ownS t, true) := by
    unfold sigP ownS
    have : histP (curE t) = true := by rw [hce]; exact hch.1
    rw [if_pos this, hist_sig this]
  have hll : (lostA t).length ≤ 720 := by
    have := lostD_len t
    unfold lostD at this
    rw [if_pos hg] at this
    exact this
  have hol : (ownS t).length ≤ 60 := by
    have := sigL_len (curE t)
    have := curE_len hg
    unfold ownS
    omega
  have key := all_loop (step := laws_FnCurrent_L1 t (curE t, true) (sigP (curE t)) (lostA t, true)) (fun i => (⟨i, t.Branches⟩ : laws_FnCurrent_G1)) t.Branches.length (fun _ => true) (.inr () : Unit ⊕ Unit) (.inl ()) (fun i hi hv => ?_) (fun _ => ?_)
  · rw [key, if_pos (allN_iff.2 fun _ _ => rfl)]
  · have e1 : wI ((i : Int) + 1) = ((i + 1 : Nat) : Int) := by rw [wI_id (by omega)]; omega
    have hb := hf i hi
    have hbh := good_hist hg hi
    have hv := cur_great t.Branches (t.Branches.length - 1) i (by omega)
    have hbl : 0 < (nth t.Branches i).Events.length ∧ (nth t.Branches i).Events.length ≤ 60 := hb
    have hcl : 0 < (curE t).length ∧ (curE t).length ≤ 60 := by rw [hce]; exact hc
    have hv' : (nth (nth t.Branches i).Events ((nth t.Branches i).Events.length - 1)).Version ≤ (nth (curE t) ((curE t).length - 1)).Version := by
      rw [hce]; exact hv
    unfold laws_FnCurrent_L1
    simp only [Int.toNat_natCast, e1, last_idx hbl.1 (by omega), last_idx hcl.1 (by omega)]
    rw [if_pos (by rw [decide_eq_true_eq]; omega), guard_pos hi, guard_pos (by omega), guard_pos (by omega), guard_pos (by omega), if_neg (by simpa using hv'), impl_SignalsIn_eq _ (by omega)]
    simp only [Option.bind_some]
    have hbs : sigP (nth t.Branches i).Events = (sigL (nth t.Branches i).Events, true) := by
      unfold sigP
      rw [if_pos hbh.1, hist_sig hbh.1]
    have hsl := sigL_len (nth t.Branches i).Events
    rw [hbs, hcs]
    simp only [Bool.not_true, Bool.false_eq_true, if_false, if_true]
    rw [l2_eq _ _ _ (by simp only; omega) (by simp only; omega) (by simp only; omega) (fun n hn => sig_lost hg hi hn)]
    simp only [Option.bind_some, set_nth hi]
  · unfold laws_FnCurrent_L1
    dsimp only
    rw [if_neg (by simp)]
theorem part_take {a b : List EventT} (ha : histP a = true) (hb : histP b = true) : (cmpL a b).2 ≤ a.length ∧ (cmpL a b).2 ≤ b.length ∧ a.take (cmpL a b).2 = b.take (cmpL a b).2 := by
  have hle : (cmpL a b).2 ≤ min a.length b.length := by
    rw [cmpL_snd]
    cases hf : firstD a b with
    | some i => unfold firstD at hf; have := (findN_lt hf).1; simp only; omega
    | none => simp
  refine ⟨by omega, by omega, ?_⟩
  refine list_ext (by rw [List.length_take, List.length_take]; omega) fun j hj => ?_
  rw [List.length_take] at hj
  rw [nth_take (by omega), nth_take (by omega)]
  refine (hist_same ha hb (by omega) (by omega)).2 ?_
  have hz : j < (cmpL a b).2 := by omega
  rw [cmpL_snd] at hz
  cases hf : firstD a b with
  | some i =>
    rw [hf] at hz
    unfold firstD at hf
    have := (findN_lt hf).2.2 j hz
    simpa using this
  | none =>
    unfold firstD at hf
    have := findN_no hf j (by omega)
    simpa using this
theorem bind_eq_of {α β : Type} {o : Option α} {x : α} {f : α → Option β} {r : Option β} (h : o = some x) (h2 : f x = r) : o.bind f = r := by rw [h]; exact h2
theorem fnCurrent_holds (a b : List Int) (ha : ∀ y ∈ a, 0 ≤ y ∧ y ≤ 255) (hb : ∀ y ∈ b, 0 ≤ y ∧ y ≤ 255) : laws_FnCurrent a b = some true := by
  unfold laws_FnCurrent
  by_cases h0 : wI (((a.length : Nat) : Int) + ((b.length : Nat) : Int)) > 1048576
  · rw [if_pos (decide_eq_true h0)]
  rw [if_neg (by simpa using h0)]
  obtain ⟨t, ht, hto⟩ := drawT_ok ha
  have hok := okT_ok hto
  unfold spec_DrawCurrentOf
  rw [ht]
  simp only [Option.bind_some]
  have hcl := curD_len (t := t)
  have hll := lostD_len t
  rw [impl_CurrentOf_eq _ hok, spec_CurrentOf_eq _ hok, impl_LostSignals_eq _ hok, spec_LostSignals_eq _ hok]
  simp only [Option.bind_some, beq_self_eq_true, Bool.not_true, Bool.false_eq_true, if_false]
  rw [sameEvents_eq _ _ (by omega), sameTexts_eq _ _ (by omega)]
  simp only [Option.bind_some, decide_true, Bool.not_true, Bool.false_eq_true, if_false]
  refine bind_eq_of (x := .inl ()) ?_ ?_
  · cases hg : (goodT t && decide (0 < t.Branches.length))
    · have : curD t = ([], false) := by unfold curD; rw [hg]; rfl
      rw [this]; rfl
    · have e1 : curD t = (curE t, true) := by unfold curD; rw [hg]; rfl
      simp only [Bool.and_eq_true, decide_eq_true_eq] at hg
      have e2 : lostD t = (lostA t, true) := by unfold lostD; rw [if_pos hg.1]
      have hlen := curE_len hg.1
      rw [e1, e2, if_pos rfl, impl_SignalsIn_eq _ (by simp only; omega)]
      simp only [Option.bind_some]
      rw [curr_loop t hg.1 hg.2]
      have hce : curE t = bev t.Branches (curI t.Branches (t.Branches.length - 1)) := by unfold curE; rw [if_neg (by omega)]
      have hci := curI_le t.Branches (t.Branches.length - 1)
      have hh : histP (curE t) = true := by rw [hce]; exact (good_hist hg.1 (by omega)).1
      have : (sigP (curE t)).2 = true := by unfold sigP; rw [if_pos hh]
      rw [this]
      rfl
  dsimp only
  obtain ⟨x, y, hd, hx, hy⟩ := drawLess_ok hb
  have ox := okH_ok hx (by omega)
  have oy := okH_ok hy (by omega)
  rw [hd]
  simp only [Option.bind_some]
  rw [impl_BranchLess_eq _ _ ox oy, spec_BranchLess_eq _ _ ox oy]
  simp only [Option.bind_some, beq_self_eq_true, Bool.not_true, Bool.false_eq_true, if_false]
  rw [impl_BranchLess_eq _ _ oy ox, spec_PartAt_eq _ _ ox oy]
  simp only [Option.bind_some]
  cases hT : (tellP x && tellP y)
  · have : bless x y = (false, false) := by unfold bless; rw [hT]; rfl
    rw [this]; rfl
  · have e1 : bless x y = (decide ((cmpL x y).1 < 0), true) := by unfold bless; rw [hT]; rfl
    have e3 : partP x y = ((((cmpL x y).2 : Nat) : Int), true) := by unfold partP; rw [hT]; rfl
    have hT' : (tellP y && tellP x) = true := by rw [Bool.and_comm]; exact hT
    have e2 : bless y x = (decide ((cmpL y x).1 < 0), true) := by unfold bless; rw [hT']; rfl
    simp only [Bool.and_eq_true] at hT
    have hhx := tell_hist hT.1
    have hhy := tell_hist hT.2
    obtain ⟨l1, l2, l3⟩ := part_take hhx hhy
    have hanti := cmpL_anti x y
    have hsame := evs_same hhx hhy
    have hxl := hx.1
    have g1 : (0 : Int) ≤ (((cmpL x y).2 : Nat) : Int) ∧ (((cmpL x y).2 : Nat) : Int) ≤ (x.length : Int) := by omega
    have g2 : (0 : Int) ≤ (((cmpL x y).2 : Nat) : Int) ∧ (((cmpL x y).2 : Nat) : Int) ≤ (y.length : Int) := by omega
    rw [e1, e2, e3, hanti]
    simp only [Int.toNat_natCast, guard_pos g1, guard_pos g2]
    have hlt : (x.take (cmpL x y).2).length ≤ 9223372036854775807 := by rw [List.length_take]; omega
    rw [sameEvents_eq _ _ (show x.length ≤ 9223372036854775807 by omega), sameEvents_eq _ _ hlt]
    simp only [Option.bind_some, l3, decide_true]
    by_cases c0 : (cmpL x y).1 = 0
    · have hxy := hsame.1 c0
      subst hxy
      simp [c0]
    · have hxy : x ≠ y := fun e => c0 (hsame.2 e)
      by_cases c1 : (cmpL x y).1 < 0
      · have c2 : ¬ (-(cmpL x y).1 < 0) := by omega
        rw [decide_eq_true c1, decide_eq_false c2]
        simp [hxy]
      · have c2 : (-(cmpL x y).1 < 0) := by omega
        rw [decide_eq_false c1, decide_eq_true c2]
        simp [hxy]
end Go.TL

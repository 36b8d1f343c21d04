import Derived.Test.YteonagfnhdlfcaaGreatDoorG28PpOrd
import Derived.Test.YteonagfnhdlfcaaGreatDoorG29PlR5C
import Derived.Test.YteonagfnhdlfcaaGreatDoorG27PpDeep
import Derived.Test.YteonagfnhdlfcaaGreatDoorG44PpMerge
set_option linter.unusedSimpArgs false
set_option linter.unusedVariables false
set_option maxRecDepth 4000
namespace Go.TL
def smallB (l : List BranchT) : Prop := ∀ i,i < l.length → (nth l i).Events.length ≤ 1000
theorem ownEv_eq (l : List EventT) (h : l.length ≤ 1000) : zH l = some l := by
 unfold zH
 rw [guard_pos (by omega),List.nil_append]
def addS (l : List BranchT) (h : List EventT) : List BranchT := if (l.any fun b => begB h b.Events) = true then l else putB h l false
theorem zfN (t : TellingsT) (hl : t.Branches.length ≤ 1000) (hs : smallB t.Branches) : zdH t = some t := by
 unfold zdH
 have key := accL_loop (step := zb6 t) (fun i c => (⟨i,c⟩ : zee)) t.Branches.length (fun i => t.Branches.take i) (fun c => (⟨c⟩ : zfi)) (fun i hi => ?_) ?_
 ·simp only [List.take_zero,List.take_length] at key
  rw [key]; rfl
 ·have ht : (t.Branches.take i).length = i := by rw [List.length_take]; omega
  have e1 : wI ((i : Int) + 1) = ((i + 1 : Nat) : Int) := by rw [wI_id (by omega)]; omega
  unfold zb6
  simp only [Int.toNat_natCast,e1,← take_snoc hi]
  rw [if_pos (by rw [decide_eq_true_eq]; omega),guard_pos (by omega),ownEv_eq _ (hs i hi)]
  simp only [Option.bind_some]
  rw [guard_pos (by omega)]
 ·unfold zb6
  dsimp only
  rw [if_neg (by simp)]
theorem putB_len (h : List EventT) (l : List BranchT) : (putB h l false).length ≤ l.length + 1 := by
 have h1 := (putB_perm h l).length_eq
 have h2 := List.length_filter_le (fun b : BranchT => !begB b.Events h) l
 unfold leaves at h1
 rw [List.length_append,List.length_singleton] at h1
 omega
theorem addS_len (l : List BranchT) (h : List EventT) : (addS l h).length ≤ l.length + 1 := by
 unfold addS
 split
 ·omega
 ·exact putB_len h l
theorem addS_mem {l : List BranchT} {h : List EventT} {b : BranchT} (hb : b ∈ addS l h) : b ∈ l ∨ b = ⟨h⟩ := by
 unfold addS at hb
 split at hb
 ·exact .inl hb
 ·rcases List.mem_append.1 ((putB_perm h l).mem_iff.1 hb) with e | e
  ·exact .inl (List.mem_filter.1 e).1
  ·exact .inr (List.mem_singleton.1 e)
theorem begB_ge {x y : List EventT} (h : begB y x = true) : 0 ≤ (cmpL x y).1 := by
 unfold begB at h
 rw [decide_eq_true_eq,cmpL_snd] at h
 cases hf : firstD x y with
 | some i =>
  rw [hf] at h
  unfold firstD at hf
  have := (findN_lt hf).1
  simp only at h
  omega
 | none =>
  rw [hf] at h
  simp only at h
  unfold cmpL
  rw [hf]
  simp only
  rw [if_neg (by omega)]
  split <;> simp
theorem begB_self {h : List EventT} (hh : histP h = true) : begB h h = true := (begB_iff hh hh).2 ⟨Nat.le_refl _,fun _ _ => rfl⟩
theorem not_same {b h : List EventT} (hb : histP b = true) (hh : histP h = true) (hn : begB b h = false) : (cmpL b h).1 ≠ 0 := fun e => by
 have := (evs_same hb hh).1 e
 rw [this,begB_self hh] at hn
 cases hn
theorem goodT_iff (l : List BranchT) : goodT ⟨l⟩ = true ↔ l.length ≤ 12 ∧ (∀ b ∈ l,tellP b.Events = true) ∧ l.Pairwise fun a b => brL a b = true ∧ begB a.Events b.Events = false := by
 unfold goodT
 simp only [Bool.and_eq_true,decide_eq_true_eq,allN_iff,Bool.not_eq_true']
 constructor
 ·rintro ⟨h1,h2⟩
  refine ⟨h1,fun b hb => ?_,?_⟩
  ·obtain ⟨i,hi,rfl⟩ := List.getElem_of_mem hb
   have := (h2 i hi).1
   rwa [nth_eq hi] at this
  ·rw [List.pairwise_iff_getElem]
   intro k i hk hi hki
   have := (h2 i hi).2 k hki
   rw [nth_eq hk,nth_eq hi] at this
   exact ⟨brL_iff.2 this.1,this.2⟩
 ·rintro ⟨h1,h2,h3⟩
  refine ⟨h1,fun i hi => ⟨?_,fun k hk => ?_⟩⟩
  ·rw [nth_eq hi]; exact h2 _ (List.getElem_mem _)
  ·have := List.pairwise_iff_getElem.1 h3 k i (by omega) hi hk
   rw [nth_eq (show k < l.length by omega),nth_eq hi]
   exact ⟨brL_iff.1 this.1,this.2⟩
def risT (l : List BranchT) : Prop := (∀ b ∈ l,tellP b.Events = true) ∧ l.Pairwise fun a b => brL a b = true ∧ begB a.Events b.Events = false
theorem ris_good {l : List BranchT} (h : risT l) : goodT ⟨l⟩ = decide (l.length ≤ 12) := by
 by_cases h1 : l.length ≤ 12
 ·rw [(goodT_iff l).2 ⟨h1,h⟩]; simp [h1]
 ·cases hg : goodT ⟨l⟩
  ·simp [h1]
  ·exact absurd ((goodT_iff l).1 hg).1 h1
theorem add_ris {l : List BranchT} {h : List EventT} (hl : risT l) (hh : tellP h = true) : risT (addS l h) := by
 unfold addS
 split
 ·exact hl
 ·rename_i ha
  have hno : ∀ b ∈ l,begB h b.Events = false := fun b hb => by
   cases e : begB h b.Events
   ·rfl
   ·exact absurd (List.any_eq_true.2 ⟨b,hb,e⟩) ha
  refine ⟨fun b hb => ?_,?_⟩
  ·rcases List.mem_append.1 ((putB_perm h l).mem_iff.1 hb) with e | e
   ·exact hl.1 b (List.mem_filter.1 e).1
   ·rw [List.mem_singleton.1 e]; exact hh
  ·have hasc := putB_asc h l (hl.2.imp fun h => h.1) fun b hb hn => not_same (tell_hist (hl.1 b hb)) (tell_hist hh) hn
   have hS : l.Pairwise fun a b => begB a.Events b.Events = false ∧ begB b.Events a.Events = false := hl.2.imp fun {a b} ⟨h1,h2⟩ => ⟨h2,by
    cases e : begB b.Events a.Events
    ·rfl
    ·have := begB_ge e
     have := brL_iff.1 h1
     omega⟩
   have hS2 : (leaves h l ++ [(⟨h⟩ : BranchT)]).Pairwise fun a b => begB a.Events b.Events = false ∧ begB b.Events a.Events = false := by
    rw [List.pairwise_append]
    refine ⟨hS.filter _,by simp,fun a ha b hb => ?_⟩
    rw [List.mem_singleton.1 hb]
    have ha' := List.mem_filter.1 ha
    exact ⟨by simpa using ha'.2,hno a ha'.1⟩
   have hS3 := ((putB_perm h l).pairwise_iff (R := fun a b : BranchT => begB a.Events b.Events = false ∧ begB b.Events a.Events = false) fun h => ⟨h.2,h.1⟩).2 hS2
   exact (hasc.and hS3).imp fun ⟨a,b⟩ => ⟨a,b.1⟩
theorem goodT_ris {t : TellingsT} (h : goodT t = true) : risT t.Branches := ((goodT_iff t.Branches).1 h).2
theorem add_ok {l : List BranchT} {h : List EventT} (hl : ok_LBranch l) (hn : l.length ≤ 1000) (hh : ok_LEvent h) : ok_Tellings ⟨addS l h⟩ := by
 refine ⟨by have := addS_len l h; show (addS l h).length ≤ _; omega,fun y hy => ?_⟩
 rcases addS_mem hy with e | e
 ·exact hl.2 y e
 ·rw [e]; exact hh
end Go.TL
set_option maxRecDepth 4000
namespace Go.TL
def midT (l : List BranchT) : Prop := l.length ≤ 1000 ∧ smallB l
theorem mid_small {t : TellingsT} (h : smallT t) : midT t.Branches := ⟨by have := h.1; omega,fun i hi => by have := h.2 i hi; omega⟩
theorem ris_mid {l : List BranchT} (h : risT l) (hl : l.length ≤ 1000) : midT l := ⟨hl,fun i hi => by
 have := hist_len (tell_hist (h.1 (nth l i) (by rw [nth_eq hi]; exact List.getElem_mem _)))
 omega⟩
theorem cloneMid_eq (t : TellingsT) (h : midT t.Branches) : zaP t = some t := by
 unfold zaP
 have key := accL_loop (step := zY t) (fun i c => (⟨i,c⟩ : zbL)) t.Branches.length (fun i => t.Branches.take i) (fun c => (⟨c⟩ : zeh)) (fun i hi => ?_) ?_
 ·simp only [List.take_zero,List.take_length] at key
  rw [key]; rfl
 ·have hl := h.1
  have he := h.2 i hi
  have ht : (t.Branches.take i).length = i := by rw [List.length_take]; omega
  have e1 : wI ((i : Int) + 1) = ((i + 1 : Nat) : Int) := by rw [wI_id (by omega)]; omega
  unfold zY zj
  simp only [Int.toNat_natCast,e1,← take_snoc hi]
  rw [if_pos (by rw [decide_eq_true_eq]; omega),guard_pos (by omega),guard_pos (by omega)]
  simp only [Option.bind_some]
  rw [guard_pos (by rw [ht]; omega)]
 ·unfold zY
  dsimp only
  rw [if_neg (by simp)]
theorem hasFunc_eq (l : List BranchT) (h : List EventT) (hl : l.length ≤ 1000) (hb : ∀ b ∈ l,tellP b.Events = true) (hh : tellP h = true) :
  zi l h = some (l.any fun b => begB h b.Events) := by
 unfold zi zy
 have key := find_loop (step := ze l h) (fun i => (⟨i⟩ : zr)) l.length (fun i => begB h (nth l i).Events)
  (fun i => (.inl ⟨i⟩ : z7 ⊕ Unit)) (.inr ()) (fun i hi hv => ?_) ?_
 ·rw [key]
  have := findN_any l fun b => begB h b.Events
  cases hf : findN (fun i => begB h (nth l i).Events) l.length with
  | none => rw [hf] at this; rw [← this]; rfl
  | some k =>
   rw [hf] at this
   rw [← this]
   simp
 ·unfold ze zdS
  have hi' : i < l.length := hi
  have hbi := hb (nth l i) (by rw [nth_eq hi']; exact List.getElem_mem _)
  have e1 : wI ((i : Int) + 1) = ((i + 1 : Nat) : Int) := by rw [wI_id (by omega)]; omega
  simp only [Int.toNat_natCast,e1]
  rw [if_pos (by rw [decide_eq_true_eq]; omega),guard_pos (by omega),zeU _ _ (tell_hist hh) (tell_hist hbi)]
  simp only [Option.bind_some]
  cases begB h (nth l i).Events <;> rfl
 ·unfold ze
  dsimp only
  rw [if_neg (by simp)]
theorem zfZ (t : TellingsT) (h : List EventT) (ht : risT t.Branches) (hl : t.Branches.length ≤ 900) (hh : tellP h = true) : zcL t h = some ⟨addS t.Branches h⟩ := by
 have hm := ris_mid ht (by omega)
 have hhl := hist_len (tell_hist hh)
 unfold zcL
 rw [cloneMid_eq _ hm]
 simp only [Option.bind_some]
 rw [hasFunc_eq _ _ hm.1 ht.1 hh]
 simp only [Option.bind_some]
 unfold addS
 cases ha : t.Branches.any fun b => begB h b.Events
 rotate_left
 ·rfl
 simp only [Bool.false_eq_true,if_false]
 have hc : ∀ b ∈ t.Branches,zao b h = some (begB b.Events h) := fun b hb => by
  unfold zao
  rw [zeU _ _ (tell_hist (ht.1 b hb)) (tell_hist hh)]
  rfl
 have e1 : zB t.Branches h = some (leaves h t.Branches) := by
  unfold zB leaves
  have hal : (t.Branches.all fun b => (zao b h).isSome) = true := by
   rw [List.all_eq_true]
   intro b hb
   rw [hc b hb]
   rfl
  rw [guard_pos ⟨by omega,hal⟩]
  refine congrArg some (List.filter_congr fun b hb => ?_)
  rw [hc b hb]
  rfl
 rw [e1]
 simp only [Option.bind_some]
 have hll := List.length_filter_le (fun b : BranchT => !begB b.Events h) t.Branches
 change (leaves h t.Branches).length ≤ _ at hll
 unfold zj
 rw [guard_pos (by omega)]
 simp only [Option.bind_some]
 rw [guard_pos (by omega)]
 have hno : ∀ b ∈ t.Branches,begB h b.Events = false := fun b hb => by
  cases e : begB h b.Events
  ·rfl
  ·have : (t.Branches.any fun b => begB h b.Events) = true := List.any_eq_true.2 ⟨b,hb,e⟩
   rw [this] at ha; cases ha
 have hne : ∀ b ∈ t.Branches,begB b.Events h = false → (cmpL b.Events h).1 ≠ 0 := fun b hb hn => not_same (tell_hist (ht.1 b hb)) (tell_hist hh) hn
 have hlt : t.Branches.Pairwise fun a b => brL a b = true := ht.2.imp fun h => h.1
 have hapt : aptO brL (leaves h t.Branches ++ [(⟨h⟩ : BranchT)]) = true := by
  refine aptO_iff.2 ?_
  have h1 := putB_asc h t.Branches hlt hne
  exact ((putB_perm h t.Branches).pairwise_iff (R := fun a b : BranchT => brL a b = true ∨ brL b a = true) fun h => h.symm).1 (h1.imp fun h => .inl h)
 have e2 : zG (leaves h t.Branches ++ [(⟨h⟩ : BranchT)]) = some (putB h t.Branches false) := by
  unfold zG
  have hal : ((leaves h t.Branches ++ [(⟨h⟩ : BranchT)]).all fun b => decide (b.Events.length ≤ 1000)) = true := by
   rw [List.all_eq_true]
   intro b hb
   rw [decide_eq_true_eq]
   rcases List.mem_append.1 hb with e | e
   ·have := hist_len (tell_hist (ht.1 b (List.mem_filter.1 e).1))
    omega
   ·rw [List.mem_singleton.1 e]
    show h.length ≤ 1000
    omega
  rw [guard_pos ⟨by simp only [List.length_append,List.length_singleton]; omega,hal,hapt⟩]
  refine congrArg some (putB_sort h t.Branches hlt hne (sortO_perm brL _) ?_)
  refine (sortO_asc brL_trans hapt).imp fun {a b} hab => ?_
  cases e : brL b a
  ·rfl
  ·have := brL_trans _ _ _ hab e
   rw [brL_irr] at this
   cases this
 rw [e2]
 simp only [Option.bind_some]
 rw [guard_pos (by have := (putB_perm h t.Branches).length_eq; simp only [List.length_append,List.length_singleton] at this; exact this)]
theorem goodT_n {t : TellingsT} (h : goodT t = true) : t.Branches.length ≤ 12 ∧ nBrs t.Branches ≤ 4000 := by
 have h12 := goodT_len h
 refine ⟨h12,?_⟩
 have : totw wBranch t.Branches ≤ 250 * t.Branches.length := totw_bound fun b hb => by
  obtain ⟨i,hi,rfl⟩ := List.getElem_of_mem hb
  have := hist_len (tell_hist (goodT_tell h hi))
  rw [nth_eq hi] at this
  unfold wBranch
  omega
 unfold nBrs
 omega
end Go.TL
set_option maxRecDepth 4000
namespace Go.TL
theorem foldQ_snoc (e : EventT) : ∀ (l : List EventT) (s : StateT) (n : Nat),(foldQ l s n).2 = n + l.length →
  foldQ (l ++ [e]) s n = match applyP (foldQ l s n).1 e with
   | some t => (t,n + l.length + 1)
   | none => foldQ l s n
 | [],s,n,_ => by
  show (match applyP s e with | some t => foldQ [] t (n + 1) | none => (s,n)) = (match applyP s e with | some t => (t,n + 0 + 1) | none => (s,n))
  cases applyP s e <;> rfl
 | x :: l,s,n,h => by
  unfold foldQ at h
  cases ha : applyP s x with
  | none => rw [ha] at h; simp only [List.length_cons] at h; omega
  | some u =>
   rw [ha] at h
   have ih := foldQ_snoc e l u (n + 1) (by simp only [List.length_cons] at h; omega)
   have e1 : foldQ (x :: l) s n = foldQ l u (n + 1) := by conv => lhs; unfold foldQ; rw [ha]
   have e2 : foldQ (x :: l ++ [e]) s n = foldQ (l ++ [e]) u (n + 1) := by
    show foldQ (x :: (l ++ [e])) s n = _
    conv => lhs; unfold foldQ; rw [ha]
   rw [e1,e2,ih]
   simp only [List.length_cons]
   rw [show n + 1 + l.length + 1 = n + (l.length + 1) + 1 by omega]
theorem asc_snoc {l : List EventT} {e : EventT} (h : ascP l = true) (hv : l = [] ∨ lastV l ≤ e.Version) : ascP (l ++ [e]) = true := by
 unfold ascP at h ⊢
 rw [allN_iff] at h ⊢
 intro i hi
 rw [List.length_append,List.length_singleton] at hi
 by_cases hlt : i < l.length
 ·have := h i hlt
  have e1 : nth (l ++ [e]) i = nth l i := by rw [nth_eq (by simp; omega),nth_eq hlt,List.getElem_append_left hlt]
  by_cases h0 : i = 0
  ·simp [h0]
  ·have e2 : nth (l ++ [e]) (i - 1) = nth l (i - 1) := by rw [nth_eq (by simp; omega),nth_eq (show i - 1 < l.length by omega),List.getElem_append_left (by omega)]
   rw [e1,e2]
   exact this
 ·have hi' : i = l.length := by omega
  subst hi'
  by_cases h0 : l.length = 0
  ·simp [h0]
  ·have e1 : nth (l ++ [e]) l.length = e := by rw [nth_eq (by simp)]; simp
   have e2 : nth (l ++ [e]) (l.length - 1) = nth l (l.length - 1) := by rw [nth_eq (by simp; omega),nth_eq (show l.length - 1 < l.length by omega),List.getElem_append_left (by omega)]
   rw [e1,e2]
   have hv' : lastV l ≤ e.Version := hv.resolve_left fun h => h0 (by rw [h]; rfl)
   unfold lastV at hv'
   simp only [Bool.or_eq_true,decide_eq_true_eq,Bool.not_eq_true',decide_eq_false_iff_not]
   exact .inr (by omega)
theorem hist_parts {l : List EventT} : histP l = true ↔ ascP l = true ∧ (foldP l).2 = l.length ∧ l.length ≤ 60 := by
 unfold histP
 simp only [Bool.and_eq_true,decide_eq_true_eq]
 exact ⟨fun h => ⟨h.1.1,h.1.2,h.2⟩,fun h => ⟨⟨h.1,h.2.1⟩,h.2.2⟩⟩
theorem hist_snoc {l : List EventT} {e : EventT} {t : StateT} (h : histP l = true) (ha : applyP (foldP l).1 e = some t) (hl : l.length < 60) (hv : l = [] ∨ lastV l ≤ e.Version) :
  histP (l ++ [e]) = true ∧ (foldP (l ++ [e])).1 = t := by
 obtain ⟨h1,h2,h3⟩ := hist_parts.1 h
 have h2' : (foldQ l newS 0).2 = 0 + l.length := by have := h2; unfold foldP at this; omega
 have hs := foldQ_snoc e l newS 0 h2'
 have ha' : applyP (foldQ l newS 0).1 e = some t := ha
 rw [ha'] at hs
 simp only at hs
 have hf : foldP (l ++ [e]) = (t,0 + l.length + 1) := hs
 refine ⟨hist_parts.2 ⟨asc_snoc h1 hv,?_,?_⟩,?_⟩
 ·rw [hf]; simp
 ·simp; omega
 ·rw [hf]
theorem tell_snoc {l : List EventT} {e : EventT} {t : StateT} (h : histP l = true) (ha : applyP (foldP l).1 e = some t) (hl : l.length < 60) (hv : l = [] ∨ lastV l ≤ e.Version) : tellP (l ++ [e]) = true := by
 unfold tellP
 rw [(hist_snoc h ha hl hv).1]
 simp
theorem cur_mem {t : TellingsT} (h0 : t.Branches.length ≠ 0) : (⟨curE t⟩ : BranchT) ∈ t.Branches := by
 unfold curE
 rw [if_neg h0]
 have := curI_le t.Branches (t.Branches.length - 1)
 exact nth_mem (by omega)
theorem cur_hist {t : TellingsT} (hg : goodT t = true) : histP (curE t) = true := by
 by_cases h0 : t.Branches.length = 0
 ·unfold curE; rw [if_pos h0]; rfl
 ·exact tell_hist ((goodT_ris hg).1 _ (cur_mem h0))
theorem cur_old {v : Int} {t : TellingsT} (ho : oldT v t = true) : ∀ e ∈ curE t,e.Version ≤ v := by
 by_cases h0 : t.Branches.length = 0
 ·unfold curE; rw [if_pos h0]; simp
 ·unfold oldT at ho
  rw [List.all_eq_true] at ho
  have := ho _ (cur_mem h0)
  unfold oldE at this
  rw [List.all_eq_true] at this
  intro e he
  have := this e he
  simp at this
  omega
theorem goodR_parts {r : RegionT} (h : goodR r = true) : (0 ≤ r.Id ∧ r.Id ≤ 9) ∧ verP r.Version = true ∧ goodT r.Tellings = true ∧ oldT r.Version r.Tellings = true := by
 unfold goodR wordP at h
 simp only [Bool.and_eq_true,decide_eq_true_eq] at h
 exact ⟨h.1,h.2.1.1,h.2.1.2,h.2.2⟩
theorem goodR_of {r : RegionT} (h1 : 0 ≤ r.Id ∧ r.Id ≤ 9) (h2 : verP r.Version = true) (h3 : goodT r.Tellings = true) (h4 : oldT r.Version r.Tellings = true) : goodR r = true := by
 unfold goodR wordP
 simp only [Bool.and_eq_true,decide_eq_true_eq]
 exact ⟨h1,⟨h2,h3⟩,h4⟩
def nextE (r : RegionT) (k : Int) (n : ByteArray) : EventT := ⟨(foldP (curE r.Tellings)).1.Next,r.Version,k,n⟩
def moreR (r : RegionT) (k : Int) (n : ByteArray) : RegionT := ⟨r.Id,r.Version,⟨addS r.Tellings.Branches (curE r.Tellings ++ [nextE r k n])⟩⟩
def codeP (r : RegionT) (k : Int) (n : ByteArray) : Int :=
 if (decide (1 ≤ k ∧ k ≤ 6) && nameP n) = false then 1
 else if actB r = false then 2
 else if (decide (k = 2) && hasS (foldP (curE r.Tellings)).1.Signals n) = true then 5
 else if (applyP (foldP (curE r.Tellings)).1 (nextE r k n)).isSome = false then 3
 else if (curE r.Tellings).length = 60 then 4
 else 0
def callP (r : RegionT) (k : Int) (n : ByteArray) : RegionT × Int := (if codeP r k n = 0 then moreR r k n else r,codeP r k n)
theorem code_zero {r : RegionT} {k : Int} {n : ByteArray} (h : codeP r k n = 0) : (1 ≤ k ∧ k ≤ 6) ∧ nameP n = true ∧ actB r = true ∧ (k = 2 → hasS (foldP (curE r.Tellings)).1.Signals n = false) ∧
  (∃ t,applyP (foldP (curE r.Tellings)).1 (nextE r k n) = some t) ∧ (curE r.Tellings).length ≠ 60 := by
 unfold codeP at h
 split at h
 ·cases h
 rename_i h1
 split at h
 ·cases h
 rename_i h2
 split at h
 ·cases h
 rename_i h3
 split at h
 ·cases h
 rename_i h4
 split at h
 ·cases h
 rename_i h5
 simp only [Bool.not_eq_false,Bool.and_eq_true,decide_eq_true_eq] at h1
 simp only [Bool.not_eq_false] at h2 h4
 refine ⟨h1.1,h1.2,h2,fun hk => ?_,Option.isSome_iff_exists.1 h4,h5⟩
 cases hs : hasS (foldP (curE r.Tellings)).1.Signals n
 ·rfl
 ·exact absurd (by simp [hk,hs]) h3
theorem last_old {v : Int} {t : TellingsT} (ho : oldT v t = true) : curE t = [] ∨ lastV (curE t) ≤ v := by
 by_cases h0 : curE t = []
 ·exact .inl h0
 ·right
  have hl : 0 < (curE t).length := List.length_pos_iff.2 h0
  exact cur_old ho _ (nth_mem (by omega))
theorem more_tell {r : RegionT} {k : Int} {n : ByteArray} (hg : goodR r = true) (h : codeP r k n = 0) : tellP (curE r.Tellings ++ [nextE r k n]) = true := by
 obtain ⟨g1,g2,g3,g4⟩ := goodR_parts hg
 obtain ⟨c1,c2,c3,c4,⟨t,c5⟩,c6⟩ := code_zero h
 have hh := cur_hist g3
 have hl := hist_len hh
 exact tell_snoc hh c5 (by omega) (last_old g4)
theorem addS_fewer {l : List BranchT} {h h2 : List EventT} (hm : (⟨h⟩ : BranchT) ∈ l) (hb : begB h h2 = true) : (addS l h2).length ≤ l.length := by
 unfold addS
 split
 ·exact Nat.le_refl _
 ·rw [(putB_perm h2 l).length_eq,List.length_append,List.length_singleton]
  have : (leaves h2 l).length < l.length := by
   unfold leaves
   have hle := List.length_filter_le (fun b : BranchT => !begB b.Events h2) l
   rcases Nat.lt_or_ge (l.filter fun b : BranchT => !begB b.Events h2).length l.length with h | h
   ·exact h
   ·have := (List.filter_eq_self (l := l) (p := fun b : BranchT => !begB b.Events h2)).1 ((List.filter_sublist).eq_of_length_le (by omega)) _ hm
    simp [hb] at this
  omega
theorem beg_more {l : List EventT} {e : EventT} (h : histP l = true) (h2 : histP (l ++ [e]) = true) : begB l (l ++ [e]) = true :=
 (begB_iff h h2).2 ⟨by simp,fun i hi => by rw [nth_eq hi,nth_eq (by simp; omega),List.getElem_append_left hi]⟩
theorem more_good {r : RegionT} {k : Int} {n : ByteArray} (hg : goodR r = true) (h : codeP r k n = 0) : goodR (moreR r k n) = true := by
 obtain ⟨g1,g2,g3,g4⟩ := goodR_parts hg
 have ht := more_tell hg h
 have hr := add_ris (goodT_ris g3) ht
 have h12 := goodT_len g3
 have hle : (addS r.Tellings.Branches (curE r.Tellings ++ [nextE r k n])).length ≤ 12 := by
  by_cases h0 : r.Tellings.Branches.length = 0
  ·have := addS_len r.Tellings.Branches (curE r.Tellings ++ [nextE r k n])
   omega
  ·have := addS_fewer (cur_mem h0) (beg_more (cur_hist g3) (tell_hist ht))
   omega
 refine goodR_of g1 g2 (by show goodT ⟨addS _ _⟩ = true; rw [ris_good hr]; simpa using hle) ?_
 show oldT r.Version ⟨addS _ _⟩ = true
 unfold oldT
 rw [List.all_eq_true]
 intro b hb
 rcases addS_mem hb with hb | hb
 ·unfold oldT at g4
  exact List.all_eq_true.1 g4 b hb
 ·subst hb
  unfold oldE
  rw [List.all_eq_true]
  intro e he
  rcases List.mem_append.1 he with he | he
  ·have := cur_old g4 e he
   simp; omega
  ·rw [List.mem_singleton.1 he]
   simp [nextE]
theorem nextE_ok {r : RegionT} {k : Int} {n : ByteArray} (hr : ok_Region r) (hk : ok_I k) (hn : ok_S n) : ok_Event (nextE r k n) := by
 have := goodS_num (foldP_good (curE r.Tellings))
 exact ⟨(⟨by omega,by omega⟩ : ok_I (foldP (curE r.Tellings)).1.Next),hr.2.1,hk,hn⟩
theorem more_ok {r : RegionT} {k : Int} {n : ByteArray} (hg : goodR r = true) (hr : ok_Region r) (hk : ok_I k) (hn : ok_S n) : ok_Region (moreR r k n) := by
 obtain ⟨g1,g2,g3,g4⟩ := goodR_parts hg
 have h12 := goodT_len g3
 have hc := curE_ok hr.2.2
 have hcl := curE_len g3
 refine ⟨hr.1,hr.2.1,add_ok hr.2.2 (by omega) ⟨by simp; omega,fun y hy => ?_⟩⟩
 rcases List.mem_append.1 hy with hy | hy
 ·exact hc.2 y hy
 ·rw [List.mem_singleton.1 hy]; exact nextE_ok hr hk hn
def reapS (p : RegionT × Nat) (n : ByteArray) : RegionT × Nat := if codeP p.1 2 n = 0 then (moreR p.1 2 n,p.2 + 1) else p
def reapP (r : RegionT) (l : List ByteArray) : RegionT × Nat := l.foldl reapS (r,0)
theorem reapS_good {p : RegionT × Nat} {n : ByteArray} (h : goodR p.1 = true) : goodR (reapS p n).1 = true := by
 unfold reapS
 split
 ·rename_i h0; exact more_good h h0
 ·exact h
theorem reapS_ok {p : RegionT × Nat} {n : ByteArray} (hg : goodR p.1 = true) (h : ok_Region p.1) (hn : ok_S n) : ok_Region (reapS p n).1 := by
 unfold reapS
 split
 ·exact more_ok hg h (⟨by omega,by omega⟩ : ok_I 2) hn
 ·exact h
theorem reapS_n (p : RegionT × Nat) (n : ByteArray) : p.2 ≤ (reapS p n).2 ∧ (reapS p n).2 ≤ p.2 + 1 := by
 unfold reapS
 split
 ·exact ⟨Nat.le_succ _,Nat.le_refl _⟩
 ·exact ⟨Nat.le_refl _,Nat.le_succ _⟩
theorem reap_inv : ∀ (l : List ByteArray) (p : RegionT × Nat),goodR p.1 = true → ok_Region p.1 → (∀ n ∈ l,ok_S n) → goodR (l.foldl reapS p).1 = true ∧ ok_Region (l.foldl reapS p).1 ∧ (l.foldl reapS p).2 ≤ p.2 + l.length
 | [],p,hg,ho,_ => ⟨hg,ho,by simp⟩
 | n :: l,p,hg,ho,hn => by
  have := reapS_n p n
  obtain ⟨h1,h2,h3⟩ := reap_inv l (reapS p n) (reapS_good hg) (reapS_ok hg ho (hn n (by simp))) fun m hm => hn m (List.mem_cons_of_mem _ hm)
  refine ⟨h1,h2,?_⟩
  simp only [List.foldl_cons,List.length_cons]
  omega
end Go.TL
set_option maxRecDepth 4000
namespace Go.TL
theorem add_loop_w (l : List BranchT) (h : List EventT) (hl : l.length ≤ 1000) (hs : smallB l) (hh : h.length ≤ 1000) : ∀ (r : List BranchT) (i : Nat) (put : Bool) (c : List BranchT),l.drop i = r → i ≤ l.length → c.length ≤ 2 * i →
  ∃ put' c',loopF (zbt l h) ⟨put,(i : Int),c⟩ = some ⟨put',c'⟩ ∧ (if put' = true then c' else c' ++ [⟨h⟩]) = c ++ putB h r put ∧ c'.length ≤ 2 * l.length := by
 intro r
 induction r with
 | nil =>
  intro i put c hd hi hc
  have e := drop_nil hd hi
  refine ⟨put,c,loop_out ?_,?_,by omega⟩
  ·unfold zbt
   dsimp only
   rw [if_neg (by rw [decide_eq_true_eq]; omega)]
  ·unfold putB
   cases put <;> simp
 | cons b r ih =>
  intro i put c hd hi hc
  obtain ⟨hlt,hb,hr⟩ := drop_cons hd
  have hbs : b.Events.length ≤ 1000 := by rw [← hb]; exact hs i hlt
  have e1 : wI ((i : Int) + 1) = ((i + 1 : Nat) : Int) := by rw [wI_id (by omega)]; omega
  have ebb : (⟨b.Events⟩ : BranchT) = b := rfl
  have hstep : zbt l h ⟨put,(i : Int),c⟩ = some (.inl (if begB b.Events h = true then ⟨put,((i + 1 : Nat) : Int),c⟩ else if ((cmpL b.Events h).1 > 0 ∧ put = false) then ⟨true,((i + 1 : Nat) : Int),(c ++ [⟨h⟩]) ++ [b]⟩ else ⟨put,((i + 1 : Nat) : Int),c ++ [b]⟩)) := by
   unfold zbt
   simp only [Int.toNat_natCast,hb,e1]
   rw [if_pos (by rw [decide_eq_true_eq]; omega),guard_pos (by omega),zej _ _ (by omega) (by omega)]
   simp only [Option.bind_some]
   cases hbg : begB b.Events h
   ·rw [if_neg (by simp),if_neg (by simp),zd4 _ _ (by omega) (by omega)]
    simp only [Option.bind_some,ownEv_eq _ hh,ownEv_eq _ hbs,ebb]
    by_cases hc1 : (cmpL b.Events h).1 > 0
    ·rw [if_pos (decide_eq_true hc1)]
     cases put
     ·simp only [Option.bind_some,Bool.not_false,if_true]
      rw [guard_pos (by omega),guard_pos (by omega),if_pos ⟨hc1,trivial⟩]
     ·simp only [Option.bind_some,Bool.not_true,Bool.false_eq_true,if_false]
      rw [guard_pos (by omega),if_neg (by simp)]
    ·rw [if_neg (by simpa using hc1)]
     simp only [Option.bind_some,Bool.false_eq_true,if_false]
     rw [guard_pos (by omega),if_neg (fun h => hc1 h.1)]
   ·rw [if_pos rfl,if_pos rfl]
  rw [loop_on hstep]
  unfold putB
  by_cases hbg : begB b.Events h = true
  ·rw [if_pos hbg,if_pos hbg]
   exact ih (i + 1) put c hr (by omega) (by omega)
  ·rw [if_neg hbg,if_neg hbg]
   by_cases hc1 : (cmpL b.Events h).1 > 0 ∧ put = false
   ·rw [if_pos hc1,if_pos hc1]
    obtain ⟨p',c',g1,g2,g3⟩ := ih (i + 1) true ((c ++ [⟨h⟩]) ++ [b]) hr (by omega) (by simp only [List.length_append,List.length_singleton]; omega)
    exact ⟨p',c',g1,by rw [g2]; simp,g3⟩
   ·rw [if_neg hc1,if_neg hc1]
    obtain ⟨p',c',g1,g2,g3⟩ := ih (i + 1) put (c ++ [b]) hr (by omega) (by simp only [List.length_append,List.length_singleton]; omega)
    exact ⟨p',c',g1,by rw [g2]; simp,g3⟩
theorem zhc (l : List BranchT) (h : List EventT) (hl : l.length ≤ 1000) (hs : smallB l) (hh : h.length ≤ 1000) : zct l h = some (addS l h) := by
 unfold zct addS
 have key := find_loop (step := zaD l h) (fun i => (⟨i⟩ : zdv)) l.length (fun i => begB h (nth l i).Events) (fun _ => (.inl () : Unit ⊕ Unit)) (.inr ()) (fun i hi hv => ?_) ?_
 ·have e : loopF (zaD l h) ⟨0⟩ = some (if (l.any fun b => begB h b.Events) = true then .inl () else .inr ()) := by
   rw [key]
   have := findN_any l fun b => begB h b.Events
   cases hf : findN (fun i => begB h (nth l i).Events) l.length with
   | none => rw [hf] at this; rw [← this]; rfl
   | some k => rw [hf] at this; rw [← this]; rfl
  rw [e]
  simp only [Option.bind_some]
  cases l.any fun b => begB h b.Events
  ·simp only [Bool.false_eq_true,if_false]
   obtain ⟨p',c',g1,g2,g3⟩ := add_loop_w l h hl hs hh l 0 false [] rfl (by omega) (by simp)
   have e0 : ((0 : Nat) : Int) = 0 := rfl
   rw [e0] at g1
   rw [g1]
   simp only [Option.bind_some,ownEv_eq _ hh]
   rw [List.nil_append] at g2
   rw [← g2]
   cases p'
   ·rw [if_pos (by rfl),guard_pos (by omega)]; rfl
   ·rfl
  ·rfl
 ·unfold zaD
  have hi' : i < l.length := hi
  have hbs := hs i hi'
  have e1 : wI ((i : Int) + 1) = ((i + 1 : Nat) : Int) := by rw [wI_id (by omega)]; omega
  simp only [Int.toNat_natCast,e1]
  rw [if_pos (by rw [decide_eq_true_eq]; omega),guard_pos (by omega),zej _ _ (by omega) (by omega)]
  simp only [Option.bind_some]
  cases begB h (nth l i).Events <;> rfl
 ·unfold zaD
  dsimp only
  rw [if_neg (by simp)]
theorem foldQ_next : ∀ (r : List EventT) (s : StateT) (n : Nat),(foldQ r s n).2 = n + r.length → (foldQ r s n).1.Next = s.Next + (r.length : Int)
 | [],s,n,_ => by simp [foldQ]
 | e :: r,s,n,h => by
  unfold foldQ at h ⊢
  cases ha : applyP s e with
  | none => rw [ha] at h; simp only [List.length_cons] at h; omega
  | some t =>
   rw [ha] at h
   have ih := foldQ_next r t (n + 1) (by simp only [List.length_cons] at h; omega)
   have := (applyP_next ha).2
   simp only [List.length_cons] at ih ⊢
   rw [ih,this]
   omega
theorem hist_next {l : List EventT} (h : histP l = true) : (foldP l).1.Next = 1 + (l.length : Int) := by
 obtain ⟨h1,h2,h3⟩ := hist_parts.1 h
 exact foldQ_next l newS 0 (by unfold foldP at h2; omega)
theorem mayCome_tot (s : StateT) (k : Int) (n : ByteArray) (hg : goodS s = true) (hk : (decide (1 ≤ k ∧ k ≤ 6) && nameP n) = false) : za1 s k n = some (false,false) := by
 have g := goodS_num hg
 have n1 := okL_len g.2.2.2.1
 have n2 := okL_len g.2.2.2.2
 unfold za1 zP
 rw [zbU s (by omega) (by omega),hg]
 simp only [Option.bind_some,zcK,zbs,Bool.not_true,Bool.false_eq_true,if_false]
 cases h1 : decide (1 ≤ k ∧ k ≤ 6)
 ·simp
 ·rw [h1] at hk
  simp only [Bool.true_and] at hk
  rw [hk]
  simp
theorem next_ev {r : RegionT} {k : Int} {n : ByteArray} (hg : goodR r = true) (hk : (decide (1 ≤ k ∧ k ≤ 6) && nameP n) = true) : evP (nextE r k n) = true := by
 obtain ⟨g1,g2,g3,g4⟩ := goodR_parts hg
 have hh := cur_hist g3
 have hl := hist_len hh
 have hn := hist_next hh
 simp only [Bool.and_eq_true,decide_eq_true_eq] at hk
 unfold evP
 simp only [Bool.and_eq_true,decide_eq_true_eq]
 exact ⟨⟨⟨by show 1 ≤ (foldP (curE r.Tellings)).1.Next ∧ _; show _ ∧ (foldP (curE r.Tellings)).1.Next ≤ 1000; omega,g2⟩,hk.1⟩,hk.2⟩
theorem history_eq (r : RegionT) (hg : goodT r.Tellings = true) : zcJ r = some (curE r.Tellings) := by
 obtain ⟨hf,ho⟩ := goodT_fit hg
 unfold zcJ
 rw [ze0 _ hf]
 simp only [Option.bind_some]
 unfold cur0I curE
 by_cases h0 : r.Tellings.Branches.length = 0
 ·rw [if_pos h0,if_pos (by simp),if_pos h0]
 ·have hc := curI_le r.Tellings.Branches (r.Tellings.Branches.length - 1)
  rw [if_neg h0,if_neg (by simp),if_neg h0,guard_pos (by omega),Int.toNat_natCast]
  rfl
theorem zhv (r : RegionT) (k : Int) (n : ByteArray) (hg : goodR r = true) (hr : ok_Region r) (hk : ok_I k) (hn : ok_S n) : zdi r k n = some (callP r k n) := by
 obtain ⟨g1,g2,g3,g4⟩ := goodR_parts hg
 have hh := cur_hist g3
 have hl := hist_len hh
 have hok := curE_ok hr.2.2
 have h12 := goodT_len g3
 obtain ⟨f1,f2⟩ := foldP_len (curE r.Tellings)
 have hgs := foldP_good (curE r.Tellings)
 unfold zdi zb5
 rw [zd3,zeT _ hn]
 simp only [Option.bind_some]
 have e1 : (if (!decide (1 ≤ k ∧ k ≤ 6)) = true then some (⟨true⟩ : zcM) else some ⟨!nameP n⟩) = some ⟨!(decide (1 ≤ k ∧ k ≤ 6) && nameP n)⟩ := by
  cases decide (1 ≤ k ∧ k ≤ 6) <;> simp
 rw [e1]
 simp only [Option.bind_some]
 cases c1 : decide (1 ≤ k ∧ k ≤ 6) && nameP n
 ·have : codeP r k n = 1 := by unfold codeP; rw [if_pos c1]
  unfold callP
  rw [this]; rfl
 simp only [Bool.not_true,Bool.false_eq_true,if_false]
 have e2 : ((r.Version.tmod 10) == r.Id) = actB r := rfl
 rw [e2]
 cases c2 : actB r
 ·have : codeP r k n = 2 := by unfold codeP; rw [if_neg (by rw [c1]; simp),if_pos c2]
  unfold callP
  rw [this]; rfl
 simp only [Bool.not_true,Bool.false_eq_true,if_false]
 rw [history_eq r g3]
 simp only [Option.bind_some]
 rw [zdQ _ hok]
 simp only [Option.bind_some]
 obtain ⟨x,hx,hxp⟩ := zcs (foldP (curE r.Tellings)).1.Signals n (by omega)
 have e3 : (if (k == 2) = true then ((zaW (foldP (curE r.Tellings)).1.Signals n).bind fun c193 => some (⟨(decide (c193 ≥ 0))⟩ : zbC)) else some (⟨false⟩ : zbC)) = some ⟨decide (k = 2) && hasS (foldP (curE r.Tellings)).1.Signals n⟩ := by
  rw [hx]
  simp only [Option.bind_some,hxp]
  by_cases hk2 : k = 2 <;> simp [hk2]
 rw [e3]
 simp only [Option.bind_some]
 cases c3 : decide (k = 2) && hasS (foldP (curE r.Tellings)).1.Signals n
 rotate_left
 ·have : codeP r k n = 5 := by unfold codeP; rw [if_neg (by rw [c1]; simp),if_neg (by rw [c2]; simp),if_pos c3]
  unfold callP
  rw [this]; rfl
 simp only [Bool.false_eq_true,if_false]
 obtain ⟨q,hq,ha⟩ := zfg (foldP (curE r.Tellings)).1 (nextE r k n) hgs hn
 have hq' : zbd (foldP (curE r.Tellings)).1 ⟨(foldP (curE r.Tellings)).1.Next,r.Version,k,n⟩ = some q := hq
 rw [hq']
 simp only [Option.bind_some]
 have c4 : (applyP (foldP (curE r.Tellings)).1 (nextE r k n)).isSome = q.2 := by rw [ha]; cases q.2 <;> rfl
 cases c5 : q.2
 ·rw [c5] at c4
  have : codeP r k n = 3 := by unfold codeP; rw [if_neg (by rw [c1]; simp),if_neg (by rw [c2]; simp),if_neg (by rw [c3]; simp),if_pos c4]
  unfold callP
  rw [this]; rfl
 rw [c5] at c4
 simp only [Bool.not_true,Bool.false_eq_true,if_false]
 by_cases c6 : (curE r.Tellings).length = 60
 ·have : codeP r k n = 4 := by unfold codeP; rw [if_neg (by rw [c1]; simp),if_neg (by rw [c2]; simp),if_neg (by rw [c3]; simp),if_neg (by rw [c4]; simp),if_pos c6]
  unfold callP
  rw [this,if_pos (by rw [c6]; rfl)]; rfl
 have c0 : codeP r k n = 0 := by unfold codeP; rw [if_neg (by rw [c1]; simp),if_neg (by rw [c2]; simp),if_neg (by rw [c3]; simp),if_neg (by rw [c4]; simp),if_neg c6]
 rw [if_neg (by simpa using (show ¬ ((curE r.Tellings).length : Int) = 60 by omega)),ownEv_eq _ (by omega)]
 simp only [Option.bind_some]
 rw [guard_pos (by omega)]
 have hm := ris_mid (goodT_ris g3) (by omega)
 have ht := more_tell hg c0
 have hra := add_ris (goodT_ris g3) ht
 have hal := addS_len r.Tellings.Branches (curE r.Tellings ++ [nextE r k n])
 have hma := ris_mid hra (by omega)
 have e6 : zct r.Tellings.Branches (curE r.Tellings ++ [⟨(foldP (curE r.Tellings)).1.Next,r.Version,k,n⟩]) = some (addS r.Tellings.Branches (curE r.Tellings ++ [nextE r k n])) := zhc r.Tellings.Branches (curE r.Tellings ++ [nextE r k n]) hm.1 hm.2 (by simp; omega)
 rw [e6]
 simp only [Option.bind_some]
 rw [zfN ⟨addS r.Tellings.Branches (curE r.Tellings ++ [nextE r k n])⟩ hma.1 hma.2]
 simp only [Option.bind_some]
 unfold callP
 rw [c0]
 rfl
theorem zgS (r : RegionT) (k : Int) (n : ByteArray) (hg : goodR r = true) : ∃ m,za1 (foldP (curE r.Tellings)).1 k n = some m ∧ ((decide (1 ≤ k ∧ k ≤ 6) && nameP n) = true → m.1 = (applyP (foldP (curE r.Tellings)).1 (nextE r k n)).isSome) := by
 have hgs := foldP_good (curE r.Tellings)
 cases c1 : decide (1 ≤ k ∧ k ≤ 6) && nameP n
 ·exact ⟨_,mayCome_tot _ _ _ hgs c1,fun h => by cases h⟩
 ·exact ⟨_,mayCome_eq (foldP (curE r.Tellings)).1 (nextE r k n) hgs (next_ev hg c1) rfl,fun _ => rfl⟩
theorem state_eq (r : RegionT) (hg : goodT r.Tellings = true) : zas r = some (foldP (curE r.Tellings)).1 := by
 have hl := curE_len hg
 unfold zas
 rw [zdR _ hg]
 simp only [Option.bind_some]
 rw [zeZ _ (by omega)]
 rfl
theorem zhP (r : RegionT) (k : Int) (n : ByteArray) (hg : goodR r = true) : zaa r k n = if codeP r k n = 0 then none else some (codeP r k n) := by
 obtain ⟨g1,g2,g3,g4⟩ := goodR_parts hg
 have hl := curE_len g3
 have h12 := goodT_len g3
 obtain ⟨f1,f2⟩ := foldP_len (curE r.Tellings)
 obtain ⟨m,hm,hm2⟩ := zgS r k n hg
 unfold zaa zP zK
 rw [zdR _ g3,state_eq r g3]
 simp only [Option.bind_some]
 rw [hm,zcK,zbs]
 simp only [Option.bind_some]
 have e1 : (if (!decide (1 ≤ k ∧ k ≤ 6)) = true then some (⟨true⟩ : za4) else some ⟨!nameP n⟩) = some ⟨!(decide (1 ≤ k ∧ k ≤ 6) && nameP n)⟩ := by
  cases decide (1 ≤ k ∧ k ≤ 6) <;> simp
 rw [e1]
 simp only [Option.bind_some]
 cases c1 : decide (1 ≤ k ∧ k ≤ 6) && nameP n
 ·have : codeP r k n = 1 := by unfold codeP; rw [if_pos c1]
  rw [this]; rfl
 have hm3 := hm2 c1
 simp only [Bool.not_true,Bool.false_eq_true,if_false]
 have e2 : ((r.Version.tmod 10) == r.Id) = actB r := rfl
 rw [e2]
 cases c2 : actB r
 ·have : codeP r k n = 2 := by unfold codeP; rw [if_neg (by rw [c1]; simp),if_pos c2]
  rw [this]; rfl
 simp only [Bool.not_true,Bool.false_eq_true,if_false]
 rw [containsS_eq _ _ (by omega)]
 simp only [Option.bind_some]
 have e3 : (if (k == 2) = true then some (⟨hasS (foldP (curE r.Tellings)).1.Signals n⟩ : za5) else some ⟨false⟩) = some ⟨decide (k = 2) && hasS (foldP (curE r.Tellings)).1.Signals n⟩ := by
  by_cases hk2 : k = 2 <;> simp [hk2]
 rw [e3]
 simp only [Option.bind_some]
 cases c3 : decide (k = 2) && hasS (foldP (curE r.Tellings)).1.Signals n
 rotate_left
 ·have : codeP r k n = 5 := by unfold codeP; rw [if_neg (by rw [c1]; simp),if_neg (by rw [c2]; simp),if_pos c3]
  rw [this]; rfl
 simp only [Bool.false_eq_true,if_false]
 rw [hm3]
 cases c4 : (applyP (foldP (curE r.Tellings)).1 (nextE r k n)).isSome
 ·have : codeP r k n = 3 := by unfold codeP; rw [if_neg (by rw [c1]; simp),if_neg (by rw [c2]; simp),if_neg (by rw [c3]; simp),if_pos c4]
  rw [this]; rfl
 simp only [Bool.not_true,Bool.false_eq_true,if_false]
 by_cases c6 : (curE r.Tellings).length = 60
 ·have : codeP r k n = 4 := by unfold codeP; rw [if_neg (by rw [c1]; simp),if_neg (by rw [c2]; simp),if_neg (by rw [c3]; simp),if_neg (by rw [c4]; simp),if_pos c6]
  rw [this,if_pos (by rw [c6]; rfl)]; rfl
 have c0 : codeP r k n = 0 := by unfold codeP; rw [if_neg (by rw [c1]; simp),if_neg (by rw [c2]; simp),if_neg (by rw [c3]; simp),if_neg (by rw [c4]; simp),if_neg c6]
 rw [if_neg (by simpa using (show ¬ ((curE r.Tellings).length : Int) = 60 by omega)),c0]
 unfold zj
 rw [guard_pos (by omega)]
 simp only [Option.bind_some]
 rw [guard_pos (by omega)]
 have ht := more_tell hg c0
 have e6 : zcL r.Tellings (curE r.Tellings ++ [⟨(foldP (curE r.Tellings)).1.Next,r.Version,k,n⟩]) = some ⟨addS r.Tellings.Branches (curE r.Tellings ++ [nextE r k n])⟩ := zfZ r.Tellings (curE r.Tellings ++ [nextE r k n]) (goodT_ris g3) (by omega) ht
 rw [e6]
 rfl
theorem zhQ (r : RegionT) (k : Int) (n : ByteArray) (hg : goodR r = true) (c0 : codeP r k n = 0) : zaR r k n = some (0,moreR r k n) := by
 obtain ⟨g1,g2,g3,g4⟩ := goodR_parts hg
 have hl := curE_len g3
 have h12 := goodT_len g3
 obtain ⟨f1,f2⟩ := foldP_len (curE r.Tellings)
 obtain ⟨m,hm,hm2⟩ := zgS r k n hg
 obtain ⟨z1,z2,z3,z4,⟨t,z5⟩,z6⟩ := code_zero c0
 have c1 : (decide (1 ≤ k ∧ k ≤ 6) && nameP n) = true := by simp [z1,z2]
 have hm3 := hm2 c1
 rw [z5] at hm3
 unfold zaR zP zK
 rw [zdR _ g3,state_eq r g3]
 simp only [Option.bind_some]
 rw [hm,zcK,zbs]
 simp only [Option.bind_some]
 rw [decide_eq_true z1,z2]
 simp only [Bool.not_true,Bool.false_eq_true,if_false,Option.bind_some]
 have e2 : ((r.Version.tmod 10) == r.Id) = actB r := rfl
 rw [e2,z3]
 simp only [Bool.not_true,Bool.false_eq_true,if_false]
 rw [containsS_eq _ _ (by omega)]
 simp only [Option.bind_some]
 have e3 : (if (k == 2) = true then some (⟨hasS (foldP (curE r.Tellings)).1.Signals n⟩ : za6) else some ⟨false⟩) = some ⟨false⟩ := by
  by_cases hk2 : k = 2
  ·simp [hk2,z4 hk2]
  ·simp [hk2]
 rw [e3]
 simp only [Option.bind_some,Bool.false_eq_true,if_false]
 rw [hm3]
 simp only [Option.isSome_some,Bool.not_true,Bool.false_eq_true,if_false]
 rw [if_neg (by simpa using (show ¬ ((curE r.Tellings).length : Int) = 60 by omega))]
 unfold zj
 rw [guard_pos (by omega)]
 simp only [Option.bind_some]
 rw [guard_pos (by omega)]
 have ht := more_tell hg c0
 have e6 : zcL r.Tellings (curE r.Tellings ++ [⟨(foldP (curE r.Tellings)).1.Next,r.Version,k,n⟩]) = some ⟨addS r.Tellings.Branches (curE r.Tellings ++ [nextE r k n])⟩ := zfZ r.Tellings (curE r.Tellings ++ [nextE r k n]) (goodT_ris g3) (by omega) ht
 rw [e6]
 rfl
theorem lostA_ok {t : TellingsT} (ht : ok_Tellings t) : ∀ n ∈ lostA t,ok_S n := by
 intro n hn
 have := ((stps_ok (ownS t) (allS t.Branches) [] (by simp [ascS])).2 n).1 hn
 rcases this with h | ⟨h,_⟩
 ·simp at h
 ·unfold allS at h
  rw [List.mem_flatMap] at h
  obtain ⟨b,hb,h⟩ := h
  unfold sigL at h
  rw [List.mem_map] at h
  obtain ⟨e,he,rfl⟩ := h
  exact ((ht.2 b hb).2 e (List.mem_filter.1 he).1).2.2.2
def rpAt (r : RegionT) (l : List ByteArray) (i : Nat) : RegionT × Nat := (l.take i).foldl reapS (r,0)
theorem rpAt_snoc {r : RegionT} {l : List ByteArray} {i : Nat} (h : i < l.length) : rpAt r l (i + 1) = reapS (rpAt r l i) (nth l i) := by
 unfold rpAt
 rw [← take_snoc h,List.foldl_append]
 rfl
theorem rpAt_inv {r : RegionT} {l : List ByteArray} (hg : goodR r = true) (hr : ok_Region r) (hl : ∀ n ∈ l,ok_S n) (i : Nat) : goodR (rpAt r l i).1 = true ∧ ok_Region (rpAt r l i).1 ∧ (rpAt r l i).2 ≤ i := by
 obtain ⟨h1,h2,h3⟩ := reap_inv (l.take i) (r,0) hg hr fun n hn => hl n (List.mem_of_mem_take hn)
 refine ⟨h1,h2,?_⟩
 have : (l.take i).length ≤ i := by rw [List.length_take]; omega
 unfold rpAt
 simp only at h3
 omega
theorem zgn (r : RegionT) (hg : goodR r = true) (hr : ok_Region r) : zcO r = some ((reapP r (lostA r.Tellings)).1,(((reapP r (lostA r.Tellings)).2 : Nat) : Int)) := by
 obtain ⟨g1,g2,g3,g4⟩ := goodR_parts hg
 have hls := lostA_ok hr.2.2
 have hll : (lostA r.Tellings).length ≤ 720 := by
  have := lostD_len r.Tellings
  unfold lostD at this
  rw [if_pos g3] at this
  exact this
 unfold zcO
 rw [zhh _ hr.2.2 g3]
 simp only [Option.bind_some]
 have key := accL_loop (step := z8 (lostA r.Tellings)) (fun i (c : RegionT × Nat) => (⟨(c.2 : Int),i,c.1.Id,c.1.Version,c.1.Tellings.Branches⟩ : zcN)) (lostA r.Tellings).length (fun i => rpAt r (lostA r.Tellings) i) (fun c => (⟨(c.2 : Int),c.1.Id,c.1.Version,c.1.Tellings.Branches⟩ : zeM)) (fun i hi => ?_) ?_
 ·have e0 : rpAt r (lostA r.Tellings) 0 = (r,0) := rfl
  rw [e0] at key
  have e1 : rpAt r (lostA r.Tellings) (lostA r.Tellings).length = reapP r (lostA r.Tellings) := by unfold rpAt reapP; rw [List.take_length]
  rw [e1] at key
  have key' : loopF (z8 (lostA r.Tellings)) ⟨0,0,r.Id,r.Version,r.Tellings.Branches⟩ = _ := key
  rw [key']
  rfl
 ·obtain ⟨i1,i2,i3⟩ := rpAt_inv hg hr hls i
  have e1 : wI ((i : Int) + 1) = ((i + 1 : Nat) : Int) := by rw [wI_id (by omega)]; omega
  have e2 : wI (((rpAt r (lostA r.Tellings) i).2 : Int) + 1) = (((rpAt r (lostA r.Tellings) i).2 + 1 : Nat) : Int) := by rw [wI_id (by omega)]; omega
  unfold z8
  simp only [Int.toNat_natCast,e1,e2]
  rw [if_pos (by rw [decide_eq_true_eq]; omega),guard_pos (by omega)]
  have hc : zdi ⟨(rpAt r (lostA r.Tellings) i).1.Id,(rpAt r (lostA r.Tellings) i).1.Version,⟨(rpAt r (lostA r.Tellings) i).1.Tellings.Branches⟩⟩ 2 (nth (lostA r.Tellings) i) = some (callP (rpAt r (lostA r.Tellings) i).1 2 (nth (lostA r.Tellings) i)) := zhv _ _ _ i1 i2 (⟨by omega,by omega⟩ : ok_I 2) (hls _ (nth_mem hi))
  rw [hc,rpAt_snoc hi]
  simp only [Option.bind_some]
  unfold callP reapS
  by_cases c0 : codeP (rpAt r (lostA r.Tellings) i).1 2 (nth (lostA r.Tellings) i) = 0
  ·simp only [c0,if_true,beq_self_eq_true]
  ·simp only [c0,if_false]
   rw [if_neg (by simpa using c0)]
 ·unfold z8
  dsimp only
  rw [if_neg (by simp)]
theorem zhw (r : RegionT) (hg : goodR r = true) (hr : ok_Region r) : zay r = some ((((reapP r (lostA r.Tellings)).2 : Nat) : Int),(reapP r (lostA r.Tellings)).1) := by
 obtain ⟨g1,g2,g3,g4⟩ := goodR_parts hg
 have hls := lostA_ok hr.2.2
 have hll : (lostA r.Tellings).length ≤ 720 := by
  have := lostD_len r.Tellings
  unfold lostD at this
  rw [if_pos g3] at this
  exact this
 unfold zay
 rw [zf0 _ g3,lost_same]
 simp only [Option.bind_some]
 have key := accL_loop (step := zC (lostA r.Tellings)) (fun i (c : RegionT × Nat) => (⟨(c.2 : Int),i,c.1.Id,c.1.Version,c.1.Tellings.Branches⟩ : zaS)) (lostA r.Tellings).length (fun i => rpAt r (lostA r.Tellings) i) (fun c => (⟨(c.2 : Int),c.1.Id,c.1.Version,c.1.Tellings.Branches⟩ : zdl)) (fun i hi => ?_) ?_
 ·have e0 : rpAt r (lostA r.Tellings) 0 = (r,0) := rfl
  rw [e0] at key
  have e1 : rpAt r (lostA r.Tellings) (lostA r.Tellings).length = reapP r (lostA r.Tellings) := by unfold rpAt reapP; rw [List.take_length]
  rw [e1] at key
  have key' : loopF (zC (lostA r.Tellings)) ⟨0,0,r.Id,r.Version,r.Tellings.Branches⟩ = _ := key
  rw [key']
  rfl
 ·obtain ⟨i1,i2,i3⟩ := rpAt_inv hg hr hls i
  have e1 : wI ((i : Int) + 1) = ((i + 1 : Nat) : Int) := by rw [wI_id (by omega)]; omega
  have e2 : wI (((rpAt r (lostA r.Tellings) i).2 : Int) + 1) = (((rpAt r (lostA r.Tellings) i).2 + 1 : Nat) : Int) := by rw [wI_id (by omega)]; omega
  unfold zC
  simp only [Int.toNat_natCast,e1,e2]
  rw [if_pos (by rw [decide_eq_true_eq]; omega),guard_pos (by omega)]
  have hc : zaa ⟨(rpAt r (lostA r.Tellings) i).1.Id,(rpAt r (lostA r.Tellings) i).1.Version,⟨(rpAt r (lostA r.Tellings) i).1.Tellings.Branches⟩⟩ 2 (nth (lostA r.Tellings) i) = _ := zhP (rpAt r (lostA r.Tellings) i).1 2 (nth (lostA r.Tellings) i) i1
  rw [hc,rpAt_snoc hi]
  unfold reapS
  by_cases c0 : codeP (rpAt r (lostA r.Tellings) i).1 2 (nth (lostA r.Tellings) i) = 0
  ·have hd : zaR ⟨(rpAt r (lostA r.Tellings) i).1.Id,(rpAt r (lostA r.Tellings) i).1.Version,⟨(rpAt r (lostA r.Tellings) i).1.Tellings.Branches⟩⟩ 2 (nth (lostA r.Tellings) i) = _ := zhQ (rpAt r (lostA r.Tellings) i).1 2 (nth (lostA r.Tellings) i) i1 c0
   simp only [c0,if_true]
   rw [hd]
   rfl
  ·simp only [c0,if_false]
   rw [if_neg (by simpa using c0)]
 ·unfold zC
  dsimp only
  rw [if_neg (by simp)]
def reapD (r : RegionT) : RegionT × Int × Bool := if (goodR r && actB r) = true then ((reapP r (lostA r.Tellings)).1,(((reapP r (lostA r.Tellings)).2 : Nat) : Int),true) else (⟨0,0,⟨[]⟩⟩,0,false)
theorem zhx (r : RegionT) (hr : ok_Region r) : zd6 r = some (reapD r) := by
 unfold zd6 reapD zb5 zew
 rw [zge _ hr]
 simp only [Option.bind_some]
 have e2 : ((r.Version.tmod 10) == r.Id) = actB r := rfl
 rw [e2]
 cases hg : goodR r
 ·simp
 cases ha : actB r
 ·simp
 have g3 := goodR_tell hg
 have hm := mid_small (goodT_small g3)
 simp only [Bool.not_true,Bool.false_eq_true,if_false,Option.bind_some]
 rw [zfN _ hm.1 hm.2]
 simp only [Option.bind_some]
 rw [zgn _ hg hr]
 rfl
theorem zhy (r : RegionT) (hr : ok_Region r) : zdj r = some (reapD r) := by
 unfold zdj reapD zK zdu
 rw [zgf _ hr]
 simp only [Option.bind_some]
 have e2 : ((r.Version.tmod 10) == r.Id) = actB r := rfl
 rw [e2]
 cases hg : goodR r
 ·simp
 cases ha : actB r
 ·simp
 have g3 := goodR_tell hg
 have hm := mid_small (goodT_small g3)
 simp only [Bool.not_true,Bool.false_eq_true,if_false,Option.bind_some]
 rw [cloneMid_eq _ hm]
 simp only [Option.bind_some]
 rw [zhw _ hg hr]
 rfl
theorem reapD_lk {r : RegionT} (hr : ok_Region r) : lk_Region (reapD r).1 := by
 unfold reapD
 split
 ·rename_i hc
  simp only [Bool.and_eq_true] at hc
  have := (rpAt_inv hc.1 hr (lostA_ok hr.2.2) (lostA r.Tellings).length).2.1
  have e1 : rpAt r (lostA r.Tellings) (lostA r.Tellings).length = reapP r (lostA r.Tellings) := by unfold rpAt reapP; rw [List.take_length]
  rw [e1] at this
  exact lk_of_Region this
 ·exact ⟨trivial,trivial,lk_nil⟩
theorem reapD_n {r : RegionT} (hr : ok_Region r) : (reapD r).1.Tellings.Branches.length ≤ 12 ∧ nBrs (reapD r).1.Tellings.Branches ≤ 4000 := by
 unfold reapD
 split
 ·rename_i hc
  simp only [Bool.and_eq_true] at hc
  have := (rpAt_inv hc.1 hr (lostA_ok hr.2.2) (lostA r.Tellings).length).1
  have e1 : rpAt r (lostA r.Tellings) (lostA r.Tellings).length = reapP r (lostA r.Tellings) := by unfold rpAt reapP; rw [List.take_length]
  rw [e1] at this
  exact goodT_n (goodR_tell this)
 ·simp [nBrs_nil]
theorem reapply_holds (r : RegionT) (hr : ok_Region r) : zck r = some true := by
 unfold zck
 rw [zg1 _ _ hr (by omega) (by omega)]
 simp only [Option.bind_some]
 by_cases h : (siz_Region r : Int) ≤ 1048576
 rotate_left
 ·rw [if_pos (decide_eq_true (szr_no h))]
 have hz : siz_Tellings r.Tellings ≤ 1048576 := by unfold siz_Region at h; omega
 obtain ⟨z1,z2⟩ := tell_size hz
 obtain ⟨z3,z4⟩ := reapD_n hr
 rw [if_neg (by simpa using szr_ok h),zgd _ (by omega),zg2 _ (by omega)]
 simp only [Option.bind_some]
 rw [zhx _ hr,zhy _ hr]
 simp only [Option.bind_some]
 rw [zfh _ _ (reapD_lk hr),zfh _ _ (lk_of_Region hr)]
 simp only [Option.bind_some,decide_true,Bool.not_true,beq_self_eq_true,bne_self_eq_false,Bool.false_eq_true,if_false]
 rw [mark_Region_eq r 1 (by omega) (by omega) (by omega),mark_Region_eq (reapD r).1 1 (by omega) (by omega) (by omega)]
 simp only [Option.bind_some]
 rw [guard_pos (mseq_len ..),if_neg (by simp; omega)]
 simp only [Option.bind_some,Bool.false_eq_true,if_false]
 rw [guard_pos (mseq_len ..),held_Region_eq _ _ _ 1 (by omega) (by omega) (by omega)]
 simp only [Option.bind_some]
 rw [if_neg (by simp; omega),if_neg (by simp),if_neg (by simp; omega),if_neg (by simp)]
end Go.TL

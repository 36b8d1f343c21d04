import Derived.Test.YteonagfnhdlfcaaGreatDoorG28PpOrd
import Derived.Test.YteonagfnhdlfcaaGreatDoorG29PlR5C
import Derived.Test.YteonagfnhdlfcaaGreatDoorG27PpDeep
import Derived.Test.YteonagfnhdlfcaaGreatDoorG44PpMerge
set_option linter.unusedSimpArgs false
set_option linter.unusedVariables false
set_option maxRecDepth 4000
namespace Go.TL
def smallB (l : List BranchT) : Prop := ∀ i,i < l.length → (nth l i).Events.length ≤ 1000
theorem ownEv_eq (l : List EventT) (h : l.length ≤ 1000) : zq l = some l := by
 unfold zq
 rw [guard_pos (by omega),List.nil_append]
theorem add_loop (l : List BranchT) (h : List EventT) (hl : l.length ≤ 1000) (hs : smallB l) (hh : h.length ≤ 1000) : ∀ (r : List BranchT) (i : Nat) (put : Bool) (c : List BranchT),l.drop i = r → i ≤ l.length → c.length ≤ 2 * i →
  ∃ put' c',loopF (zcC l h) ⟨put,(i : Int),c⟩ = some ⟨put',c'⟩ ∧ (if put' = true then c' else c' ++ [⟨h⟩]) = c ++ putB h r put ∧ c'.length ≤ 2 * l.length := by
 intro r
 induction r with
 | nil =>
  intro i put c hd hi hc
  have e := drop_nil hd hi
  refine ⟨put,c,loop_out ?_,?_,by omega⟩
  ·unfold zcC
   dsimp only
   rw [if_neg (by rw [decide_eq_true_eq]; omega)]
  ·unfold putB
   cases put <;> simp
 | cons b r ih =>
  intro i put c hd hi hc
  obtain ⟨hlt,hb,hr⟩ := drop_cons hd
  have hbs : b.Events.length ≤ 1000 := by rw [← hb]; exact hs i hlt
  have e1 : wI ((i : Int) + 1) = ((i + 1 : Nat) : Int) := by rw [wI_id (by omega)]; omega
  have ebb : (⟨b.Events⟩ : BranchT) = b := rfl
  have hstep : zcC l h ⟨put,(i : Int),c⟩ = some (.inl (if begB b.Events h = true then ⟨put,((i + 1 : Nat) : Int),c⟩ else if ((cmpL b.Events h).1 > 0 ∧ put = false) then ⟨true,((i + 1 : Nat) : Int),(c ++ [⟨h⟩]) ++ [b]⟩ else ⟨put,((i + 1 : Nat) : Int),c ++ [b]⟩)) := by
   unfold zcC
   simp only [Int.toNat_natCast,hb,e1]
   rw [if_pos (by rw [decide_eq_true_eq]; omega),guard_pos (by omega),zch _ _ (by omega) (by omega)]
   simp only [Option.bind_some]
   cases hbg : begB b.Events h
   ·rw [if_neg (by simp),if_neg (by simp),zdm _ _ (by omega) (by omega)]
    simp only [Option.bind_some,ownEv_eq _ hh,ownEv_eq _ hbs,ebb]
    by_cases hc1 : (cmpL b.Events h).1 > 0
    ·rw [if_pos (decide_eq_true hc1)]
     cases put
     ·simp only [Option.bind_some,Bool.not_false,if_true]
      rw [guard_pos (by omega),guard_pos (by omega),if_pos ⟨hc1,trivial⟩]
     ·simp only [Option.bind_some,Bool.not_true,Bool.false_eq_true,if_false]
      rw [guard_pos (by omega),if_neg (by simp)]
    ·rw [if_neg (by simpa using hc1)]
     simp only [Option.bind_some,Bool.false_eq_true,if_false]
     rw [guard_pos (by omega),if_neg (fun h => hc1 h.1)]
   ·rw [if_pos rfl,if_pos rfl]
  rw [loop_on hstep]
  unfold putB
  by_cases hbg : begB b.Events h = true
  ·rw [if_pos hbg,if_pos hbg]
   exact ih (i + 1) put c hr (by omega) (by omega)
  ·rw [if_neg hbg,if_neg hbg]
   by_cases hc1 : (cmpL b.Events h).1 > 0 ∧ put = false
   ·rw [if_pos hc1,if_pos hc1]
    obtain ⟨p',c',g1,g2,g3⟩ := ih (i + 1) true ((c ++ [⟨h⟩]) ++ [b]) hr (by omega) (by simp only [List.length_append,List.length_singleton]; omega)
    exact ⟨p',c',g1,by rw [g2]; simp,g3⟩
   ·rw [if_neg hc1,if_neg hc1]
    obtain ⟨p',c',g1,g2,g3⟩ := ih (i + 1) put (c ++ [b]) hr (by omega) (by simp only [List.length_append,List.length_singleton]; omega)
    exact ⟨p',c',g1,by rw [g2]; simp,g3⟩
def addS (l : List BranchT) (h : List EventT) : List BranchT := if (l.any fun b => begB h b.Events) = true then l else putB h l false
theorem zhX (l : List BranchT) (h : List EventT) (hl : l.length ≤ 1000) (hs : smallB l) (hh : h.length ≤ 1000) : ze3 l h = some (addS l h) := by
 unfold ze3 addS
 have key := find_loop (step := zbM l h) (fun i => (⟨i⟩ : zeR)) l.length (fun i => begB h (nth l i).Events) (fun _ => (.inl () : Unit ⊕ Unit)) (.inr ()) (fun i hi hv => ?_) ?_
 ·have e : loopF (zbM l h) ⟨0⟩ = some (if (l.any fun b => begB h b.Events) = true then .inl () else .inr ()) := by
   rw [key]
   have := findN_any l fun b => begB h b.Events
   cases hf : findN (fun i => begB h (nth l i).Events) l.length with
   | none => rw [hf] at this; rw [← this]; rfl
   | some k => rw [hf] at this; rw [← this]; rfl
  rw [e]
  simp only [Option.bind_some]
  cases l.any fun b => begB h b.Events
  ·simp only [Bool.false_eq_true,if_false]
   obtain ⟨p',c',g1,g2,g3⟩ := add_loop l h hl hs hh l 0 false [] rfl (by omega) (by simp)
   have e0 : ((0 : Nat) : Int) = 0 := rfl
   rw [e0] at g1
   rw [g1]
   simp only [Option.bind_some,ownEv_eq _ hh]
   rw [List.nil_append] at g2
   rw [← g2]
   cases p'
   ·rw [if_pos (by rfl),guard_pos (by omega)]; rfl
   ·rfl
  ·rfl
 ·unfold zbM
  have hi' : i < l.length := hi
  have hbs := hs i hi'
  have e1 : wI ((i : Int) + 1) = ((i + 1 : Nat) : Int) := by rw [wI_id (by omega)]; omega
  simp only [Int.toNat_natCast,e1]
  rw [if_pos (by rw [decide_eq_true_eq]; omega),guard_pos (by omega),zch _ _ (by omega) (by omega)]
  simp only [Option.bind_some]
  cases begB h (nth l i).Events <;> rfl
 ·unfold zbM
  dsimp only
  rw [if_neg (by simp)]
theorem zeV (t : TellingsT) (hl : t.Branches.length ≤ 1000) (hs : smallB t.Branches) : zbU t = some t := by
 unfold zbU
 have key := accL_loop (step := zcD t) (fun i c => (⟨i,c⟩ : zeS)) t.Branches.length (fun i => t.Branches.take i) (fun c => (⟨c⟩ : zfW)) (fun i hi => ?_) ?_
 ·simp only [List.take_zero,List.take_length] at key
  rw [key]; rfl
 ·have ht : (t.Branches.take i).length = i := by rw [List.length_take]; omega
  have e1 : wI ((i : Int) + 1) = ((i + 1 : Nat) : Int) := by rw [wI_id (by omega)]; omega
  unfold zcD
  simp only [Int.toNat_natCast,e1,← take_snoc hi]
  rw [if_pos (by rw [decide_eq_true_eq]; omega),guard_pos (by omega),ownEv_eq _ (hs i hi)]
  simp only [Option.bind_some]
  rw [guard_pos (by omega)]
 ·unfold zcD
  dsimp only
  rw [if_neg (by simp)]
theorem putB_len (h : List EventT) (l : List BranchT) : (putB h l false).length ≤ l.length + 1 := by
 have h1 := (putB_perm h l).length_eq
 have h2 := List.length_filter_le (fun b : BranchT => !begB b.Events h) l
 unfold leaves at h1
 rw [List.length_append,List.length_singleton] at h1
 omega
theorem addS_len (l : List BranchT) (h : List EventT) : (addS l h).length ≤ l.length + 1 := by
 unfold addS
 split
 ·omega
 ·exact putB_len h l
theorem addS_mem {l : List BranchT} {h : List EventT} {b : BranchT} (hb : b ∈ addS l h) : b ∈ l ∨ b = ⟨h⟩ := by
 unfold addS at hb
 split at hb
 ·exact .inl hb
 ·rcases List.mem_append.1 ((putB_perm h l).mem_iff.1 hb) with e | e
  ·exact .inl (List.mem_filter.1 e).1
  ·exact .inr (List.mem_singleton.1 e)
theorem begB_ge {x y : List EventT} (h : begB y x = true) : 0 ≤ (cmpL x y).1 := by
 unfold begB at h
 rw [decide_eq_true_eq,cmpL_snd] at h
 cases hf : firstD x y with
 | some i =>
  rw [hf] at h
  unfold firstD at hf
  have := (findN_lt hf).1
  simp only at h
  omega
 | none =>
  rw [hf] at h
  simp only at h
  unfold cmpL
  rw [hf]
  simp only
  rw [if_neg (by omega)]
  split <;> simp
theorem begB_self {h : List EventT} (hh : histP h = true) : begB h h = true := (begB_iff hh hh).2 ⟨Nat.le_refl _,fun _ _ => rfl⟩
theorem not_same {b h : List EventT} (hb : histP b = true) (hh : histP h = true) (hn : begB b h = false) : (cmpL b h).1 ≠ 0 := fun e => by
 have := (evs_same hb hh).1 e
 rw [this,begB_self hh] at hn
 cases hn
theorem goodT_iff (l : List BranchT) : goodT ⟨l⟩ = true ↔ l.length ≤ 12 ∧ (∀ b ∈ l,tellP b.Events = true) ∧ l.Pairwise fun a b => brL a b = true ∧ begB a.Events b.Events = false := by
 unfold goodT
 simp only [Bool.and_eq_true,decide_eq_true_eq,allN_iff,Bool.not_eq_true']
 constructor
 ·rintro ⟨h1,h2⟩
  refine ⟨h1,fun b hb => ?_,?_⟩
  ·obtain ⟨i,hi,rfl⟩ := List.getElem_of_mem hb
   have := (h2 i hi).1
   rwa [nth_eq hi] at this
  ·rw [List.pairwise_iff_getElem]
   intro k i hk hi hki
   have := (h2 i hi).2 k hki
   rw [nth_eq hk,nth_eq hi] at this
   exact ⟨brL_iff.2 this.1,this.2⟩
 ·rintro ⟨h1,h2,h3⟩
  refine ⟨h1,fun i hi => ⟨?_,fun k hk => ?_⟩⟩
  ·rw [nth_eq hi]; exact h2 _ (List.getElem_mem _)
  ·have := List.pairwise_iff_getElem.1 h3 k i (by omega) hi hk
   rw [nth_eq (show k < l.length by omega),nth_eq hi]
   exact ⟨brL_iff.1 this.1,this.2⟩
def risT (l : List BranchT) : Prop := (∀ b ∈ l,tellP b.Events = true) ∧ l.Pairwise fun a b => brL a b = true ∧ begB a.Events b.Events = false
theorem ris_good {l : List BranchT} (h : risT l) : goodT ⟨l⟩ = decide (l.length ≤ 12) := by
 by_cases h1 : l.length ≤ 12
 ·rw [(goodT_iff l).2 ⟨h1,h⟩]; simp [h1]
 ·cases hg : goodT ⟨l⟩
  ·simp [h1]
  ·exact absurd ((goodT_iff l).1 hg).1 h1
theorem add_ris {l : List BranchT} {h : List EventT} (hl : risT l) (hh : tellP h = true) : risT (addS l h) := by
 unfold addS
 split
 ·exact hl
 ·rename_i ha
  have hno : ∀ b ∈ l,begB h b.Events = false := fun b hb => by
   cases e : begB h b.Events
   ·rfl
   ·exact absurd (List.any_eq_true.2 ⟨b,hb,e⟩) ha
  refine ⟨fun b hb => ?_,?_⟩
  ·rcases List.mem_append.1 ((putB_perm h l).mem_iff.1 hb) with e | e
   ·exact hl.1 b (List.mem_filter.1 e).1
   ·rw [List.mem_singleton.1 e]; exact hh
  ·have hasc := putB_asc h l (hl.2.imp fun h => h.1) fun b hb hn => not_same (tell_hist (hl.1 b hb)) (tell_hist hh) hn
   have hS : l.Pairwise fun a b => begB a.Events b.Events = false ∧ begB b.Events a.Events = false := hl.2.imp fun {a b} ⟨h1,h2⟩ => ⟨h2,by
    cases e : begB b.Events a.Events
    ·rfl
    ·have := begB_ge e
     have := brL_iff.1 h1
     omega⟩
   have hS2 : (leaves h l ++ [(⟨h⟩ : BranchT)]).Pairwise fun a b => begB a.Events b.Events = false ∧ begB b.Events a.Events = false := by
    rw [List.pairwise_append]
    refine ⟨hS.filter _,by simp,fun a ha b hb => ?_⟩
    rw [List.mem_singleton.1 hb]
    have ha' := List.mem_filter.1 ha
    exact ⟨by simpa using ha'.2,hno a ha'.1⟩
   have hS3 := ((putB_perm h l).pairwise_iff (R := fun a b : BranchT => begB a.Events b.Events = false ∧ begB b.Events a.Events = false) fun h => ⟨h.2,h.1⟩).2 hS2
   exact (hasc.and hS3).imp fun ⟨a,b⟩ => ⟨a,b.1⟩
theorem goodT_ris {t : TellingsT} (h : goodT t = true) : risT t.Branches := ((goodT_iff t.Branches).1 h).2
theorem add_ok {l : List BranchT} {h : List EventT} (hl : ok_LBranch l) (hn : l.length ≤ 1000) (hh : ok_LEvent h) : ok_Tellings ⟨addS l h⟩ := by
 refine ⟨by have := addS_len l h; show (addS l h).length ≤ _; omega,fun y hy => ?_⟩
 rcases addS_mem hy with e | e
 ·exact hl.2 y e
 ·rw [e]; exact hh
end Go.TL
set_option maxRecDepth 4000
namespace Go.TL
def midT (l : List BranchT) : Prop := l.length ≤ 1000 ∧ smallB l
theorem mid_small {t : TellingsT} (h : smallT t) : midT t.Branches := ⟨by have := h.1; omega,fun i hi => by have := h.2 i hi; omega⟩
theorem ris_mid {l : List BranchT} (h : risT l) (hl : l.length ≤ 1000) : midT l := ⟨hl,fun i hi => by
 have := hist_len (tell_hist (h.1 (nth l i) (by rw [nth_eq hi]; exact List.getElem_mem _)))
 omega⟩
theorem cloneMid_eq (t : TellingsT) (h : midT t.Branches) : zP t = some t := by
 unfold zP
 have key := accL_loop (step := zz t) (fun i c => (⟨i,c⟩ : zb9)) t.Branches.length (fun i => t.Branches.take i) (fun c => (⟨c⟩ : zeW)) (fun i hi => ?_) ?_
 ·simp only [List.take_zero,List.take_length] at key
  rw [key]; rfl
 ·have hl := h.1
  have he := h.2 i hi
  have ht : (t.Branches.take i).length = i := by rw [List.length_take]; omega
  have e1 : wI ((i : Int) + 1) = ((i + 1 : Nat) : Int) := by rw [wI_id (by omega)]; omega
  unfold zz zk
  simp only [Int.toNat_natCast,e1,← take_snoc hi]
  rw [if_pos (by rw [decide_eq_true_eq]; omega),guard_pos (by omega),guard_pos (by omega)]
  simp only [Option.bind_some]
  rw [guard_pos (by rw [ht]; omega)]
 ·unfold zz
  dsimp only
  rw [if_neg (by simp)]
theorem hasFunc_eq (l : List BranchT) (h : List EventT) (hl : l.length ≤ 1000) (hb : ∀ b ∈ l,tellP b.Events = true) (hh : tellP h = true) :
  zm l h = some (l.any fun b => begB h b.Events) := by
 unfold zm zJ
 have key := find_loop (step := zf l h) (fun i => (⟨i⟩ : zB)) l.length (fun i => begB h (nth l i).Events)
  (fun i => (.inl ⟨i⟩ : zau ⊕ Unit)) (.inr ()) (fun i hi hv => ?_) ?_
 ·rw [key]
  have := findN_any l fun b => begB h b.Events
  cases hf : findN (fun i => begB h (nth l i).Events) l.length with
  | none => rw [hf] at this; rw [← this]; rfl
  | some k =>
   rw [hf] at this
   rw [← this]
   simp
 ·unfold zf zet
  have hi' : i < l.length := hi
  have hbi := hb (nth l i) (by rw [nth_eq hi']; exact List.getElem_mem _)
  have e1 : wI ((i : Int) + 1) = ((i + 1 : Nat) : Int) := by rw [wI_id (by omega)]; omega
  simp only [Int.toNat_natCast,e1]
  rw [if_pos (by rw [decide_eq_true_eq]; omega),guard_pos (by omega),zeQ _ _ (tell_hist hh) (tell_hist hbi)]
  simp only [Option.bind_some]
  cases begB h (nth l i).Events <;> rfl
 ·unfold zf
  dsimp only
  rw [if_neg (by simp)]
theorem zfH (t : TellingsT) (h : List EventT) (ht : risT t.Branches) (hl : t.Branches.length ≤ 900) (hh : tellP h = true) : zcs t h = some ⟨addS t.Branches h⟩ := by
 have hm := ris_mid ht (by omega)
 have hhl := hist_len (tell_hist hh)
 unfold zcs
 rw [cloneMid_eq _ hm]
 simp only [Option.bind_some]
 rw [hasFunc_eq _ _ hm.1 ht.1 hh]
 simp only [Option.bind_some]
 unfold addS
 cases ha : t.Branches.any fun b => begB h b.Events
 rotate_left
 ·rfl
 simp only [Bool.false_eq_true,if_false]
 have hc : ∀ b ∈ t.Branches,zaN b h = some (begB b.Events h) := fun b hb => by
  unfold zaN
  rw [zeQ _ _ (tell_hist (ht.1 b hb)) (tell_hist hh)]
  rfl
 have e1 : zN t.Branches h = some (leaves h t.Branches) := by
  unfold zN leaves
  have hal : (t.Branches.all fun b => (zaN b h).isSome) = true := by
   rw [List.all_eq_true]
   intro b hb
   rw [hc b hb]
   rfl
  rw [guard_pos ⟨by omega,hal⟩]
  refine congrArg some (List.filter_congr fun b hb => ?_)
  rw [hc b hb]
  rfl
 rw [e1]
 simp only [Option.bind_some]
 have hll := List.length_filter_le (fun b : BranchT => !begB b.Events h) t.Branches
 change (leaves h t.Branches).length ≤ _ at hll
 unfold zk
 rw [guard_pos (by omega)]
 simp only [Option.bind_some]
 rw [guard_pos (by omega)]
 have hno : ∀ b ∈ t.Branches,begB h b.Events = false := fun b hb => by
  cases e : begB h b.Events
  ·rfl
  ·have : (t.Branches.any fun b => begB h b.Events) = true := List.any_eq_true.2 ⟨b,hb,e⟩
   rw [this] at ha; cases ha
 have hne : ∀ b ∈ t.Branches,begB b.Events h = false → (cmpL b.Events h).1 ≠ 0 := fun b hb hn => not_same (tell_hist (ht.1 b hb)) (tell_hist hh) hn
 have hlt : t.Branches.Pairwise fun a b => brL a b = true := ht.2.imp fun h => h.1
 have hapt : aptO brL (leaves h t.Branches ++ [(⟨h⟩ : BranchT)]) = true := by
  refine aptO_iff.2 ?_
  have h1 := putB_asc h t.Branches hlt hne
  exact ((putB_perm h t.Branches).pairwise_iff (R := fun a b : BranchT => brL a b = true ∨ brL b a = true) fun h => h.symm).1 (h1.imp fun h => .inl h)
 have e2 : zT (leaves h t.Branches ++ [(⟨h⟩ : BranchT)]) = some (putB h t.Branches false) := by
  unfold zT
  have hal : ((leaves h t.Branches ++ [(⟨h⟩ : BranchT)]).all fun b => decide (b.Events.length ≤ 1000)) = true := by
   rw [List.all_eq_true]
   intro b hb
   rw [decide_eq_true_eq]
   rcases List.mem_append.1 hb with e | e
   ·have := hist_len (tell_hist (ht.1 b (List.mem_filter.1 e).1))
    omega
   ·rw [List.mem_singleton.1 e]
    show h.length ≤ 1000
    omega
  rw [guard_pos ⟨by simp only [List.length_append,List.length_singleton]; omega,hal,hapt⟩]
  refine congrArg some (putB_sort h t.Branches hlt hne (sortO_perm brL _) ?_)
  refine (sortO_asc brL_trans hapt).imp fun {a b} hab => ?_
  cases e : brL b a
  ·rfl
  ·have := brL_trans _ _ _ hab e
   rw [brL_irr] at this
   cases this
 rw [e2]
 simp only [Option.bind_some]
 rw [guard_pos (by have := (putB_perm h t.Branches).length_eq; simp only [List.length_append,List.length_singleton] at this; exact this)]
def mrgS (l : List BranchT) (m : List BranchT) : List BranchT := m.foldl (fun l x => addS l x.Events) l
theorem mrg_ris : ∀ {m l : List BranchT},risT l → (∀ x ∈ m,tellP x.Events = true) → risT (mrgS l m)
 | [],l,h,_ => h
 | x :: m,l,h,hm => mrg_ris (m := m) (l := addS l x.Events) (add_ris h (hm x (by simp))) fun y hy => hm y (List.mem_cons_of_mem _ hy)
theorem mrg_len : ∀ (m l : List BranchT),(mrgS l m).length ≤ l.length + m.length
 | [],l => by simp [mrgS]
 | x :: m,l => by
  have := mrg_len m (addS l x.Events)
  have := addS_len l x.Events
  show (mrgS (addS l x.Events) m).length ≤ _
  simp only [List.length_cons]
  omega
theorem mrg_ok {m l : List BranchT} (hl : ok_LBranch l) (hm : ok_LBranch m) (h : l.length + m.length ≤ 1000) : ok_LBranch (mrgS l m) := by
 induction m generalizing l with
 | nil => exact hl
 | cons x m ih =>
  simp only [List.length_cons] at h
  have h1 := hm.2 x (by simp)
  refine ih (l := addS l x.Events) (add_ok hl (by omega) h1) ⟨by omega,fun y hy => hm.2 y (List.mem_cons_of_mem _ hy)⟩ ?_
  have := addS_len l x.Events
  omega
theorem mrg_take {l m : List BranchT} {i : Nat} (h : i < m.length) : mrgS l (m.take (i + 1)) = addS (mrgS l (m.take i)) (nth m i).Events := by
 rw [← take_snoc h]
 unfold mrgS
 rw [List.foldl_append]
 rfl
theorem zhy (a b : TellingsT) (ha : risT a.Branches) (hb : ∀ x ∈ b.Branches,tellP x.Events = true) (hl : a.Branches.length + b.Branches.length ≤ 900) : zeb a b = some ⟨mrgS a.Branches b.Branches⟩ := by
 have hsm : ∀ i,risT (mrgS a.Branches (b.Branches.take i)) ∧ (mrgS a.Branches (b.Branches.take i)).length ≤ 900 := fun i => by
  refine ⟨mrg_ris ha fun x hx => hb x (List.mem_of_mem_take hx),?_⟩
  have := mrg_len (b.Branches.take i) a.Branches
  have : (b.Branches.take i).length ≤ b.Branches.length := by rw [List.length_take]; omega
  omega
 unfold zeb
 have key := accL_loop (step := zbN b) (fun i c => (⟨c,i⟩ : zd5)) b.Branches.length (fun i => mrgS a.Branches (b.Branches.take i)) (fun c => (⟨c⟩ : zfA)) (fun i hi => ?_) ?_
 ·have e0 : mrgS a.Branches (b.Branches.take 0) = a.Branches := rfl
  rw [e0,List.take_length] at key
  rw [key]
  simp only [Option.bind_some]
  have h2 := hsm b.Branches.length
  rw [List.take_length] at h2
  have h3 := ris_mid h2.1 (by omega)
  rw [zeV ⟨mrgS a.Branches b.Branches⟩ h3.1 h3.2]
  rfl
 ·have h2 := hsm i
  have h3 := ris_mid h2.1 (by omega)
  have h4 := hist_len (tell_hist (hb (nth b.Branches i) (by rw [nth_eq hi]; exact List.getElem_mem _)))
  have e1 : wI ((i : Int) + 1) = ((i + 1 : Nat) : Int) := by rw [wI_id (by omega)]; omega
  unfold zbN
  simp only [Int.toNat_natCast,e1,mrg_take hi]
  rw [if_pos (by rw [decide_eq_true_eq]; omega),guard_pos (by omega),zhX _ _ h3.1 h3.2 (by omega)]
  rfl
 ·unfold zbN
  dsimp only
  rw [if_neg (by simp)]
def mrgD (a b : TellingsT) : TellingsT × Bool := if (goodT a && goodT b && decide ((mrgS a.Branches b.Branches).length ≤ 12)) = true then (⟨mrgS a.Branches b.Branches⟩,true) else (⟨[]⟩,false)
theorem zfj (a b : TellingsT) (ha : ok_Tellings a) (hb : ok_Tellings b) : zba a b = some (mrgD a b) := by
 unfold zba mrgD
 rw [zcr _ ha]
 simp only [Option.bind_some]
 cases hg : goodT a
 ·simp
 rw [zcr _ hb]
 simp only [Option.bind_some]
 cases hg2 : goodT b
 ·simp
 have h1 := goodT_len hg
 have h2 := goodT_len hg2
 have hr := mrg_ris (goodT_ris hg) (goodT_ris hg2).1
 simp only [Bool.not_true,Bool.false_eq_true,if_false,Option.bind_some]
 rw [zhy _ _ (goodT_ris hg) (goodT_ris hg2).1 (by omega)]
 simp only [Option.bind_some]
 rw [zcr ⟨mrgS a.Branches b.Branches⟩ (mrg_ok ha hb (by omega)),ris_good hr]
 simp only [Option.bind_some,Bool.true_and]
 by_cases hc : (mrgS a.Branches b.Branches).length ≤ 12
 ·simp [hc]
 ·simp [hc]
theorem zgB (a b : TellingsT) (ha : ok_Tellings a) (hb : ok_Tellings b) : zb0 a b = some (mrgD a b) := by
 unfold zb0 mrgD
 rw [zbm _ ha]
 simp only [Option.bind_some]
 cases hg : goodT a
 ·simp
 rw [zbm _ hb]
 simp only [Option.bind_some]
 cases hg2 : goodT b
 ·simp
 have h1 := goodT_len hg
 have h2 := goodT_len hg2
 have hr := mrg_ris (goodT_ris hg) (goodT_ris hg2).1
 simp only [Bool.not_true,Bool.false_eq_true,if_false,Option.bind_some]
 rw [cloneMid_eq _ (mid_small (goodT_small hg))]
 simp only [Option.bind_some]
 have key := accL_loop (step := zaq b) (fun i c => (⟨i,c⟩ : zcc)) b.Branches.length (fun i => mrgS a.Branches (b.Branches.take i)) (fun c => (⟨c⟩ : zeX)) (fun i hi => ?_) ?_
 ·have e0 : mrgS a.Branches (b.Branches.take 0) = a.Branches := rfl
  rw [e0,List.take_length] at key
  rw [key]
  simp only [Option.bind_some,Bool.true_and]
  by_cases hc : (mrgS a.Branches b.Branches).length ≤ 12
  ·rw [if_neg (by simp; omega),if_pos (by simpa using hc)]
  ·rw [if_pos (by simp; omega),if_neg (by simpa using hc)]
 ·have h3 := mrg_ris (goodT_ris hg) (m := b.Branches.take i) fun x hx => (goodT_ris hg2).1 x (List.mem_of_mem_take hx)
  have h4 := mrg_len (b.Branches.take i) a.Branches
  have h5 : (b.Branches.take i).length ≤ b.Branches.length := by rw [List.length_take]; omega
  have e1 : wI ((i : Int) + 1) = ((i + 1 : Nat) : Int) := by rw [wI_id (by omega)]; omega
  unfold zaq
  simp only [Int.toNat_natCast,e1,mrg_take hi]
  rw [if_pos (by rw [decide_eq_true_eq]; omega),guard_pos (by omega),zfH ⟨mrgS a.Branches (b.Branches.take i)⟩ _ h3 (by simp only; omega) (goodT_tell hg2 hi)]
  rfl
 ·unfold zaq
  dsimp only
  rw [if_neg (by simp)]
def hearD (r : RegionT) (w : WordT) : RegionT × Bool := if (goodR r && goodR ⟨0,w.Version,w.Tellings⟩ && decide ((mrgS r.Tellings.Branches w.Tellings.Branches).length ≤ 12)) = true then (⟨r.Id,max r.Version w.Version,⟨mrgS r.Tellings.Branches w.Tellings.Branches⟩⟩,true) else (⟨0,0,⟨[]⟩⟩,false)
theorem zhz (r : RegionT) (w : WordT) (hr : ok_Region r) (hw : ok_Word w) : zec r w = some (hearD r w) := by
 unfold zec hearD
 rw [zab _ hr]
 simp only [Option.bind_some]
 cases hg : goodR r
 ·simp
 rw [zab _ (show ok_Region ⟨0,w.Version,w.Tellings⟩ from ⟨by unfold ok_I; simp only; omega,hw.1,hw.2⟩)]
 simp only [Option.bind_some]
 cases hg2 : goodR ⟨0,w.Version,w.Tellings⟩
 ·simp
 have g1 := goodR_tell hg
 have g2 := goodR_tell hg2
 simp only [Bool.not_true,Bool.false_eq_true,if_false,Option.bind_some]
 rw [zfj _ _ hr.2.2 hw.2]
 simp only [Option.bind_some]
 unfold mrgD
 rw [g1,show goodT w.Tellings = true from g2]
 simp only [Bool.true_and]
 by_cases hc : (mrgS r.Tellings.Branches w.Tellings.Branches).length ≤ 12
 ·simp only [hc,decide_true,if_true,Bool.not_true,Bool.false_eq_true,if_false]
  by_cases hv : w.Version > r.Version
  ·simp only [hv,decide_true,if_true,Option.bind_some]
   rw [Int.max_eq_right (by omega)]
  ·simp only [hv,decide_false,Bool.false_eq_true,if_false,Option.bind_some]
   rw [Int.max_eq_left (by omega)]
 ·simp [hc]
theorem zf8 (r : RegionT) (w : WordT) (hr : ok_Region r) (hw : ok_Word w) : zc9 r w = some (hearD r w) := by
 unfold zc9 hearD zbH zcX
 rw [zbZ _ hr]
 simp only [Option.bind_some]
 cases hg : goodR r
 ·simp
 rw [goodR_zero]
 simp only [Bool.not_true,Bool.false_eq_true,if_false]
 rw [zgp _ _ hw.2]
 simp only [Option.bind_some]
 cases hg2 : wordP w.Version w.Tellings
 ·simp
 have g1 := goodR_tell hg
 have g2 : goodT w.Tellings = true := by
  unfold wordP at hg2
  simp only [Bool.and_eq_true] at hg2
  exact hg2.1.2
 simp only [Bool.not_true,Bool.false_eq_true,if_false]
 rw [cloneMid_eq _ (mid_small (goodT_small g1))]
 simp only [Option.bind_some]
 rw [zgB _ _ hr.2.2 hw.2]
 simp only [Option.bind_some]
 unfold mrgD
 rw [g1,g2]
 simp only [Bool.true_and]
 by_cases hc : (mrgS r.Tellings.Branches w.Tellings.Branches).length ≤ 12
 ·simp [hc]
 ·simp [hc]
end Go.TL
set_option maxRecDepth 4000
namespace Go.TL
theorem foldQ_snoc (e : EventT) : ∀ (l : List EventT) (s : StateT) (n : Nat),(foldQ l s n).2 = n + l.length →
  foldQ (l ++ [e]) s n = match applyP (foldQ l s n).1 e with
   | some t => (t,n + l.length + 1)
   | none => foldQ l s n
 | [],s,n,_ => by
  show (match applyP s e with | some t => foldQ [] t (n + 1) | none => (s,n)) = (match applyP s e with | some t => (t,n + 0 + 1) | none => (s,n))
  cases applyP s e <;> rfl
 | x :: l,s,n,h => by
  unfold foldQ at h
  cases ha : applyP s x with
  | none => rw [ha] at h; simp only [List.length_cons] at h; omega
  | some u =>
   rw [ha] at h
   have ih := foldQ_snoc e l u (n + 1) (by simp only [List.length_cons] at h; omega)
   have e1 : foldQ (x :: l) s n = foldQ l u (n + 1) := by conv => lhs; unfold foldQ; rw [ha]
   have e2 : foldQ (x :: l ++ [e]) s n = foldQ (l ++ [e]) u (n + 1) := by
    show foldQ (x :: (l ++ [e])) s n = _
    conv => lhs; unfold foldQ; rw [ha]
   rw [e1,e2,ih]
   simp only [List.length_cons]
   rw [show n + 1 + l.length + 1 = n + (l.length + 1) + 1 by omega]
theorem asc_snoc {l : List EventT} {e : EventT} (h : ascP l = true) (hv : l = [] ∨ lastV l ≤ e.Version) : ascP (l ++ [e]) = true := by
 unfold ascP at h ⊢
 rw [allN_iff] at h ⊢
 intro i hi
 rw [List.length_append,List.length_singleton] at hi
 by_cases hlt : i < l.length
 ·have := h i hlt
  have e1 : nth (l ++ [e]) i = nth l i := by rw [nth_eq (by simp; omega),nth_eq hlt,List.getElem_append_left hlt]
  by_cases h0 : i = 0
  ·simp [h0]
  ·have e2 : nth (l ++ [e]) (i - 1) = nth l (i - 1) := by rw [nth_eq (by simp; omega),nth_eq (show i - 1 < l.length by omega),List.getElem_append_left (by omega)]
   rw [e1,e2]
   exact this
 ·have hi' : i = l.length := by omega
  subst hi'
  by_cases h0 : l.length = 0
  ·simp [h0]
  ·have e1 : nth (l ++ [e]) l.length = e := by rw [nth_eq (by simp)]; simp
   have e2 : nth (l ++ [e]) (l.length - 1) = nth l (l.length - 1) := by rw [nth_eq (by simp; omega),nth_eq (show l.length - 1 < l.length by omega),List.getElem_append_left (by omega)]
   rw [e1,e2]
   have hv' : lastV l ≤ e.Version := hv.resolve_left fun h => h0 (by rw [h]; rfl)
   unfold lastV at hv'
   simp only [Bool.or_eq_true,decide_eq_true_eq,Bool.not_eq_true',decide_eq_false_iff_not]
   exact .inr (by omega)
theorem hist_parts {l : List EventT} : histP l = true ↔ ascP l = true ∧ (foldP l).2 = l.length ∧ l.length ≤ 60 := by
 unfold histP
 simp only [Bool.and_eq_true,decide_eq_true_eq]
 exact ⟨fun h => ⟨h.1.1,h.1.2,h.2⟩,fun h => ⟨⟨h.1,h.2.1⟩,h.2.2⟩⟩
theorem hist_snoc {l : List EventT} {e : EventT} {t : StateT} (h : histP l = true) (ha : applyP (foldP l).1 e = some t) (hl : l.length < 60) (hv : l = [] ∨ lastV l ≤ e.Version) :
  histP (l ++ [e]) = true ∧ (foldP (l ++ [e])).1 = t := by
 obtain ⟨h1,h2,h3⟩ := hist_parts.1 h
 have h2' : (foldQ l newS 0).2 = 0 + l.length := by have := h2; unfold foldP at this; omega
 have hs := foldQ_snoc e l newS 0 h2'
 have ha' : applyP (foldQ l newS 0).1 e = some t := ha
 rw [ha'] at hs
 simp only at hs
 have hf : foldP (l ++ [e]) = (t,0 + l.length + 1) := hs
 refine ⟨hist_parts.2 ⟨asc_snoc h1 hv,?_,?_⟩,?_⟩
 ·rw [hf]; simp
 ·simp; omega
 ·rw [hf]
theorem tell_snoc {l : List EventT} {e : EventT} {t : StateT} (h : histP l = true) (ha : applyP (foldP l).1 e = some t) (hl : l.length < 60) (hv : l = [] ∨ lastV l ≤ e.Version) : tellP (l ++ [e]) = true := by
 unfold tellP
 rw [(hist_snoc h ha hl hv).1]
 simp
theorem cur_mem {t : TellingsT} (h0 : t.Branches.length ≠ 0) : (⟨curE t⟩ : BranchT) ∈ t.Branches := by
 unfold curE
 rw [if_neg h0]
 have := curI_le t.Branches (t.Branches.length - 1)
 exact nth_mem (by omega)
theorem cur_hist {t : TellingsT} (hg : goodT t = true) : histP (curE t) = true := by
 by_cases h0 : t.Branches.length = 0
 ·unfold curE; rw [if_pos h0]; rfl
 ·exact tell_hist ((goodT_ris hg).1 _ (cur_mem h0))
theorem cur_old {v : Int} {t : TellingsT} (ho : oldT v t = true) : ∀ e ∈ curE t,e.Version ≤ v := by
 by_cases h0 : t.Branches.length = 0
 ·unfold curE; rw [if_pos h0]; simp
 ·unfold oldT at ho
  rw [List.all_eq_true] at ho
  have := ho _ (cur_mem h0)
  unfold oldE at this
  rw [List.all_eq_true] at this
  intro e he
  have := this e he
  simp at this
  omega
theorem goodR_parts {r : RegionT} (h : goodR r = true) : (0 ≤ r.Id ∧ r.Id ≤ 9) ∧ verP r.Version = true ∧ goodT r.Tellings = true ∧ oldT r.Version r.Tellings = true := by
 unfold goodR wordP at h
 simp only [Bool.and_eq_true,decide_eq_true_eq] at h
 exact ⟨h.1,h.2.1.1,h.2.1.2,h.2.2⟩
theorem goodR_of {r : RegionT} (h1 : 0 ≤ r.Id ∧ r.Id ≤ 9) (h2 : verP r.Version = true) (h3 : goodT r.Tellings = true) (h4 : oldT r.Version r.Tellings = true) : goodR r = true := by
 unfold goodR wordP
 simp only [Bool.and_eq_true,decide_eq_true_eq]
 exact ⟨h1,⟨h2,h3⟩,h4⟩
def nextE (r : RegionT) (k : Int) (n : ByteArray) : EventT := ⟨(foldP (curE r.Tellings)).1.Next,r.Version,k,n⟩
def moreR (r : RegionT) (k : Int) (n : ByteArray) : RegionT := ⟨r.Id,r.Version,⟨addS r.Tellings.Branches (curE r.Tellings ++ [nextE r k n])⟩⟩
def codeP (r : RegionT) (k : Int) (n : ByteArray) : Int :=
 if (decide (1 ≤ k ∧ k ≤ 6) && nameP n) = false then 1
 else if actB r = false then 2
 else if (decide (k = 2) && hasS (foldP (curE r.Tellings)).1.Signals n) = true then 5
 else if (applyP (foldP (curE r.Tellings)).1 (nextE r k n)).isSome = false then 3
 else if (curE r.Tellings).length = 60 then 4
 else 0
def callP (r : RegionT) (k : Int) (n : ByteArray) : RegionT × Int := (if codeP r k n = 0 then moreR r k n else r,codeP r k n)
theorem code_zero {r : RegionT} {k : Int} {n : ByteArray} (h : codeP r k n = 0) : (1 ≤ k ∧ k ≤ 6) ∧ nameP n = true ∧ actB r = true ∧ (k = 2 → hasS (foldP (curE r.Tellings)).1.Signals n = false) ∧
  (∃ t,applyP (foldP (curE r.Tellings)).1 (nextE r k n) = some t) ∧ (curE r.Tellings).length ≠ 60 := by
 unfold codeP at h
 split at h
 ·cases h
 rename_i h1
 split at h
 ·cases h
 rename_i h2
 split at h
 ·cases h
 rename_i h3
 split at h
 ·cases h
 rename_i h4
 split at h
 ·cases h
 rename_i h5
 simp only [Bool.not_eq_false,Bool.and_eq_true,decide_eq_true_eq] at h1
 simp only [Bool.not_eq_false] at h2 h4
 refine ⟨h1.1,h1.2,h2,fun hk => ?_,Option.isSome_iff_exists.1 h4,h5⟩
 cases hs : hasS (foldP (curE r.Tellings)).1.Signals n
 ·rfl
 ·exact absurd (by simp [hk,hs]) h3
theorem last_old {v : Int} {t : TellingsT} (ho : oldT v t = true) : curE t = [] ∨ lastV (curE t) ≤ v := by
 by_cases h0 : curE t = []
 ·exact .inl h0
 ·right
  have hl : 0 < (curE t).length := List.length_pos_iff.2 h0
  exact cur_old ho _ (nth_mem (by omega))
theorem more_tell {r : RegionT} {k : Int} {n : ByteArray} (hg : goodR r = true) (h : codeP r k n = 0) : tellP (curE r.Tellings ++ [nextE r k n]) = true := by
 obtain ⟨g1,g2,g3,g4⟩ := goodR_parts hg
 obtain ⟨c1,c2,c3,c4,⟨t,c5⟩,c6⟩ := code_zero h
 have hh := cur_hist g3
 have hl := hist_len hh
 exact tell_snoc hh c5 (by omega) (last_old g4)
theorem addS_fewer {l : List BranchT} {h h2 : List EventT} (hm : (⟨h⟩ : BranchT) ∈ l) (hb : begB h h2 = true) : (addS l h2).length ≤ l.length := by
 unfold addS
 split
 ·exact Nat.le_refl _
 ·rw [(putB_perm h2 l).length_eq,List.length_append,List.length_singleton]
  have : (leaves h2 l).length < l.length := by
   unfold leaves
   have hle := List.length_filter_le (fun b : BranchT => !begB b.Events h2) l
   rcases Nat.lt_or_ge (l.filter fun b : BranchT => !begB b.Events h2).length l.length with h | h
   ·exact h
   ·have := (List.filter_eq_self (l := l) (p := fun b : BranchT => !begB b.Events h2)).1 ((List.filter_sublist).eq_of_length_le (by omega)) _ hm
    simp [hb] at this
  omega
theorem beg_more {l : List EventT} {e : EventT} (h : histP l = true) (h2 : histP (l ++ [e]) = true) : begB l (l ++ [e]) = true :=
 (begB_iff h h2).2 ⟨by simp,fun i hi => by rw [nth_eq hi,nth_eq (by simp; omega),List.getElem_append_left hi]⟩
theorem more_good {r : RegionT} {k : Int} {n : ByteArray} (hg : goodR r = true) (h : codeP r k n = 0) : goodR (moreR r k n) = true := by
 obtain ⟨g1,g2,g3,g4⟩ := goodR_parts hg
 have ht := more_tell hg h
 have hr := add_ris (goodT_ris g3) ht
 have h12 := goodT_len g3
 have hle : (addS r.Tellings.Branches (curE r.Tellings ++ [nextE r k n])).length ≤ 12 := by
  by_cases h0 : r.Tellings.Branches.length = 0
  ·have := addS_len r.Tellings.Branches (curE r.Tellings ++ [nextE r k n])
   omega
  ·have := addS_fewer (cur_mem h0) (beg_more (cur_hist g3) (tell_hist ht))
   omega
 refine goodR_of g1 g2 (by show goodT ⟨addS _ _⟩ = true; rw [ris_good hr]; simpa using hle) ?_
 show oldT r.Version ⟨addS _ _⟩ = true
 unfold oldT
 rw [List.all_eq_true]
 intro b hb
 rcases addS_mem hb with hb | hb
 ·unfold oldT at g4
  exact List.all_eq_true.1 g4 b hb
 ·subst hb
  unfold oldE
  rw [List.all_eq_true]
  intro e he
  rcases List.mem_append.1 he with he | he
  ·have := cur_old g4 e he
   simp; omega
  ·rw [List.mem_singleton.1 he]
   simp [nextE]
theorem nextE_ok {r : RegionT} {k : Int} {n : ByteArray} (hr : ok_Region r) (hk : ok_I k) (hn : ok_S n) : ok_Event (nextE r k n) := by
 have := goodS_num (foldP_good (curE r.Tellings))
 exact ⟨(⟨by omega,by omega⟩ : ok_I (foldP (curE r.Tellings)).1.Next),hr.2.1,hk,hn⟩
theorem more_ok {r : RegionT} {k : Int} {n : ByteArray} (hg : goodR r = true) (hr : ok_Region r) (hk : ok_I k) (hn : ok_S n) : ok_Region (moreR r k n) := by
 obtain ⟨g1,g2,g3,g4⟩ := goodR_parts hg
 have h12 := goodT_len g3
 have hc := curE_ok hr.2.2
 have hcl := curE_len g3
 refine ⟨hr.1,hr.2.1,add_ok hr.2.2 (by omega) ⟨by simp; omega,fun y hy => ?_⟩⟩
 rcases List.mem_append.1 hy with hy | hy
 ·exact hc.2 y hy
 ·rw [List.mem_singleton.1 hy]; exact nextE_ok hr hk hn
def reapS (p : RegionT × Nat) (n : ByteArray) : RegionT × Nat := if codeP p.1 2 n = 0 then (moreR p.1 2 n,p.2 + 1) else p
def reapP (r : RegionT) (l : List ByteArray) : RegionT × Nat := l.foldl reapS (r,0)
theorem reapS_good {p : RegionT × Nat} {n : ByteArray} (h : goodR p.1 = true) : goodR (reapS p n).1 = true := by
 unfold reapS
 split
 ·rename_i h0; exact more_good h h0
 ·exact h
theorem reapS_ok {p : RegionT × Nat} {n : ByteArray} (hg : goodR p.1 = true) (h : ok_Region p.1) (hn : ok_S n) : ok_Region (reapS p n).1 := by
 unfold reapS
 split
 ·exact more_ok hg h (⟨by omega,by omega⟩ : ok_I 2) hn
 ·exact h
theorem reapS_n (p : RegionT × Nat) (n : ByteArray) : p.2 ≤ (reapS p n).2 ∧ (reapS p n).2 ≤ p.2 + 1 := by
 unfold reapS
 split
 ·exact ⟨Nat.le_succ _,Nat.le_refl _⟩
 ·exact ⟨Nat.le_refl _,Nat.le_succ _⟩
theorem reap_inv : ∀ (l : List ByteArray) (p : RegionT × Nat),goodR p.1 = true → ok_Region p.1 → (∀ n ∈ l,ok_S n) → goodR (l.foldl reapS p).1 = true ∧ ok_Region (l.foldl reapS p).1 ∧ (l.foldl reapS p).2 ≤ p.2 + l.length
 | [],p,hg,ho,_ => ⟨hg,ho,by simp⟩
 | n :: l,p,hg,ho,hn => by
  have := reapS_n p n
  obtain ⟨h1,h2,h3⟩ := reap_inv l (reapS p n) (reapS_good hg) (reapS_ok hg ho (hn n (by simp))) fun m hm => hn m (List.mem_cons_of_mem _ hm)
  refine ⟨h1,h2,?_⟩
  simp only [List.foldl_cons,List.length_cons]
  omega
end Go.TL
set_option maxRecDepth 4000
namespace Go.TL
theorem add_loop_w (l : List BranchT) (h : List EventT) (hl : l.length ≤ 1000) (hs : smallB l) (hh : h.length ≤ 1000) : ∀ (r : List BranchT) (i : Nat) (put : Bool) (c : List BranchT),l.drop i = r → i ≤ l.length → c.length ≤ 2 * i →
  ∃ put' c',loopF (zbO l h) ⟨put,(i : Int),c⟩ = some ⟨put',c'⟩ ∧ (if put' = true then c' else c' ++ [⟨h⟩]) = c ++ putB h r put ∧ c'.length ≤ 2 * l.length := by
 intro r
 induction r with
 | nil =>
  intro i put c hd hi hc
  have e := drop_nil hd hi
  refine ⟨put,c,loop_out ?_,?_,by omega⟩
  ·unfold zbO
   dsimp only
   rw [if_neg (by rw [decide_eq_true_eq]; omega)]
  ·unfold putB
   cases put <;> simp
 | cons b r ih =>
  intro i put c hd hi hc
  obtain ⟨hlt,hb,hr⟩ := drop_cons hd
  have hbs : b.Events.length ≤ 1000 := by rw [← hb]; exact hs i hlt
  have e1 : wI ((i : Int) + 1) = ((i + 1 : Nat) : Int) := by rw [wI_id (by omega)]; omega
  have ebb : (⟨b.Events⟩ : BranchT) = b := rfl
  have hstep : zbO l h ⟨put,(i : Int),c⟩ = some (.inl (if begB b.Events h = true then ⟨put,((i + 1 : Nat) : Int),c⟩ else if ((cmpL b.Events h).1 > 0 ∧ put = false) then ⟨true,((i + 1 : Nat) : Int),(c ++ [⟨h⟩]) ++ [b]⟩ else ⟨put,((i + 1 : Nat) : Int),c ++ [b]⟩)) := by
   unfold zbO
   simp only [Int.toNat_natCast,hb,e1]
   rw [if_pos (by rw [decide_eq_true_eq]; omega),guard_pos (by omega),zch _ _ (by omega) (by omega)]
   simp only [Option.bind_some]
   cases hbg : begB b.Events h
   ·rw [if_neg (by simp),if_neg (by simp),zdm _ _ (by omega) (by omega)]
    simp only [Option.bind_some,ownEv_eq _ hh,ownEv_eq _ hbs,ebb]
    by_cases hc1 : (cmpL b.Events h).1 > 0
    ·rw [if_pos (decide_eq_true hc1)]
     cases put
     ·simp only [Option.bind_some,Bool.not_false,if_true]
      rw [guard_pos (by omega),guard_pos (by omega),if_pos ⟨hc1,trivial⟩]
     ·simp only [Option.bind_some,Bool.not_true,Bool.false_eq_true,if_false]
      rw [guard_pos (by omega),if_neg (by simp)]
    ·rw [if_neg (by simpa using hc1)]
     simp only [Option.bind_some,Bool.false_eq_true,if_false]
     rw [guard_pos (by omega),if_neg (fun h => hc1 h.1)]
   ·rw [if_pos rfl,if_pos rfl]
  rw [loop_on hstep]
  unfold putB
  by_cases hbg : begB b.Events h = true
  ·rw [if_pos hbg,if_pos hbg]
   exact ih (i + 1) put c hr (by omega) (by omega)
  ·rw [if_neg hbg,if_neg hbg]
   by_cases hc1 : (cmpL b.Events h).1 > 0 ∧ put = false
   ·rw [if_pos hc1,if_pos hc1]
    obtain ⟨p',c',g1,g2,g3⟩ := ih (i + 1) true ((c ++ [⟨h⟩]) ++ [b]) hr (by omega) (by simp only [List.length_append,List.length_singleton]; omega)
    exact ⟨p',c',g1,by rw [g2]; simp,g3⟩
   ·rw [if_neg hc1,if_neg hc1]
    obtain ⟨p',c',g1,g2,g3⟩ := ih (i + 1) put (c ++ [b]) hr (by omega) (by simp only [List.length_append,List.length_singleton]; omega)
    exact ⟨p',c',g1,by rw [g2]; simp,g3⟩
theorem zhA (l : List BranchT) (h : List EventT) (hl : l.length ≤ 1000) (hs : smallB l) (hh : h.length ≤ 1000) : zda l h = some (addS l h) := by
 unfold zda addS
 have key := find_loop (step := za0 l h) (fun i => (⟨i⟩ : zd6)) l.length (fun i => begB h (nth l i).Events) (fun _ => (.inl () : Unit ⊕ Unit)) (.inr ()) (fun i hi hv => ?_) ?_
 ·have e : loopF (za0 l h) ⟨0⟩ = some (if (l.any fun b => begB h b.Events) = true then .inl () else .inr ()) := by
   rw [key]
   have := findN_any l fun b => begB h b.Events
   cases hf : findN (fun i => begB h (nth l i).Events) l.length with
   | none => rw [hf] at this; rw [← this]; rfl
   | some k => rw [hf] at this; rw [← this]; rfl
  rw [e]
  simp only [Option.bind_some]
  cases l.any fun b => begB h b.Events
  ·simp only [Bool.false_eq_true,if_false]
   obtain ⟨p',c',g1,g2,g3⟩ := add_loop_w l h hl hs hh l 0 false [] rfl (by omega) (by simp)
   have e0 : ((0 : Nat) : Int) = 0 := rfl
   rw [e0] at g1
   rw [g1]
   simp only [Option.bind_some,ownEv_eq _ hh]
   rw [List.nil_append] at g2
   rw [← g2]
   cases p'
   ·rw [if_pos (by rfl),guard_pos (by omega)]; rfl
   ·rfl
  ·rfl
 ·unfold za0
  have hi' : i < l.length := hi
  have hbs := hs i hi'
  have e1 : wI ((i : Int) + 1) = ((i + 1 : Nat) : Int) := by rw [wI_id (by omega)]; omega
  simp only [Int.toNat_natCast,e1]
  rw [if_pos (by rw [decide_eq_true_eq]; omega),guard_pos (by omega),zch _ _ (by omega) (by omega)]
  simp only [Option.bind_some]
  cases begB h (nth l i).Events <;> rfl
 ·unfold za0
  dsimp only
  rw [if_neg (by simp)]
theorem foldQ_next : ∀ (r : List EventT) (s : StateT) (n : Nat),(foldQ r s n).2 = n + r.length → (foldQ r s n).1.Next = s.Next + (r.length : Int)
 | [],s,n,_ => by simp [foldQ]
 | e :: r,s,n,h => by
  unfold foldQ at h ⊢
  cases ha : applyP s e with
  | none => rw [ha] at h; simp only [List.length_cons] at h; omega
  | some t =>
   rw [ha] at h
   have ih := foldQ_next r t (n + 1) (by simp only [List.length_cons] at h; omega)
   have := (applyP_next ha).2
   simp only [List.length_cons] at ih ⊢
   rw [ih,this]
   omega
theorem hist_next {l : List EventT} (h : histP l = true) : (foldP l).1.Next = 1 + (l.length : Int) := by
 obtain ⟨h1,h2,h3⟩ := hist_parts.1 h
 exact foldQ_next l newS 0 (by unfold foldP at h2; omega)
theorem mayCome_tot (s : StateT) (k : Int) (n : ByteArray) (hg : goodS s = true) (hk : (decide (1 ≤ k ∧ k ≤ 6) && nameP n) = false) : zbk s k n = some (false,false) := by
 have g := goodS_num hg
 have n1 := okL_len g.2.2.2.1
 have n2 := okL_len g.2.2.2.2
 unfold zbk zad
 rw [zcg s (by omega) (by omega),hg]
 simp only [Option.bind_some,zdl,zbL,Bool.not_true,Bool.false_eq_true,if_false]
 cases h1 : decide (1 ≤ k ∧ k ≤ 6)
 ·simp
 ·rw [h1] at hk
  simp only [Bool.true_and] at hk
  rw [hk]
  simp
theorem next_ev {r : RegionT} {k : Int} {n : ByteArray} (hg : goodR r = true) (hk : (decide (1 ≤ k ∧ k ≤ 6) && nameP n) = true) : evP (nextE r k n) = true := by
 obtain ⟨g1,g2,g3,g4⟩ := goodR_parts hg
 have hh := cur_hist g3
 have hl := hist_len hh
 have hn := hist_next hh
 simp only [Bool.and_eq_true,decide_eq_true_eq] at hk
 unfold evP
 simp only [Bool.and_eq_true,decide_eq_true_eq]
 exact ⟨⟨⟨by show 1 ≤ (foldP (curE r.Tellings)).1.Next ∧ _; show _ ∧ (foldP (curE r.Tellings)).1.Next ≤ 1000; omega,g2⟩,hk.1⟩,hk.2⟩
theorem history_eq (r : RegionT) (hg : goodT r.Tellings = true) : zdk r = some (curE r.Tellings) := by
 obtain ⟨hf,ho⟩ := goodT_fit hg
 unfold zdk
 rw [zfz _ hf]
 simp only [Option.bind_some]
 unfold cur0I curE
 by_cases h0 : r.Tellings.Branches.length = 0
 ·rw [if_pos h0,if_pos (by simp),if_pos h0]
 ·have hc := curI_le r.Tellings.Branches (r.Tellings.Branches.length - 1)
  rw [if_neg h0,if_neg (by simp),if_neg h0,guard_pos (by omega),Int.toNat_natCast]
  rfl
theorem zgl (r : RegionT) (k : Int) (n : ByteArray) (hg : goodR r = true) (hr : ok_Region r) (hk : ok_I k) (hn : ok_S n) : zcN r k n = some (callP r k n) := by
 obtain ⟨g1,g2,g3,g4⟩ := goodR_parts hg
 have hh := cur_hist g3
 have hl := hist_len hh
 have hok := curE_ok hr.2.2
 have h12 := goodT_len g3
 obtain ⟨f1,f2⟩ := foldP_len (curE r.Tellings)
 have hgs := foldP_good (curE r.Tellings)
 unfold zcN zcB
 rw [zcK,zfv _ hn]
 simp only [Option.bind_some]
 have e1 : (if (!decide (1 ≤ k ∧ k ≤ 6)) = true then some (⟨true⟩ : zdp) else some ⟨!nameP n⟩) = some ⟨!(decide (1 ≤ k ∧ k ≤ 6) && nameP n)⟩ := by
  cases decide (1 ≤ k ∧ k ≤ 6) <;> simp
 rw [e1]
 simp only [Option.bind_some]
 cases c1 : decide (1 ≤ k ∧ k ≤ 6) && nameP n
 ·have : codeP r k n = 1 := by unfold codeP; rw [if_pos c1]
  unfold callP
  rw [this]; rfl
 simp only [Bool.not_true,Bool.false_eq_true,if_false]
 have e2 : ((r.Version.tmod 10) == r.Id) = actB r := rfl
 rw [e2]
 cases c2 : actB r
 ·have : codeP r k n = 2 := by unfold codeP; rw [if_neg (by rw [c1]; simp),if_pos c2]
  unfold callP
  rw [this]; rfl
 simp only [Bool.not_true,Bool.false_eq_true,if_false]
 rw [history_eq r g3]
 simp only [Option.bind_some]
 rw [zeq _ hok]
 simp only [Option.bind_some]
 obtain ⟨x,hx,hxp⟩ := zc8 (foldP (curE r.Tellings)).1.Signals n (by omega)
 have e3 : (if (k == 2) = true then ((zbg (foldP (curE r.Tellings)).1.Signals n).bind fun c193 => some (⟨(decide (c193 ≥ 0))⟩ : zb1)) else some (⟨false⟩ : zb1)) = some ⟨decide (k = 2) && hasS (foldP (curE r.Tellings)).1.Signals n⟩ := by
  rw [hx]
  simp only [Option.bind_some,hxp]
  by_cases hk2 : k = 2 <;> simp [hk2]
 rw [e3]
 simp only [Option.bind_some]
 cases c3 : decide (k = 2) && hasS (foldP (curE r.Tellings)).1.Signals n
 rotate_left
 ·have : codeP r k n = 5 := by unfold codeP; rw [if_neg (by rw [c1]; simp),if_neg (by rw [c2]; simp),if_pos c3]
  unfold callP
  rw [this]; rfl
 simp only [Bool.false_eq_true,if_false]
 obtain ⟨q,hq,ha⟩ := zfV (foldP (curE r.Tellings)).1 (nextE r k n) hgs hn
 have hq' : zbw (foldP (curE r.Tellings)).1 ⟨(foldP (curE r.Tellings)).1.Next,r.Version,k,n⟩ = some q := hq
 rw [hq']
 simp only [Option.bind_some]
 have c4 : (applyP (foldP (curE r.Tellings)).1 (nextE r k n)).isSome = q.2 := by rw [ha]; cases q.2 <;> rfl
 cases c5 : q.2
 ·rw [c5] at c4
  have : codeP r k n = 3 := by unfold codeP; rw [if_neg (by rw [c1]; simp),if_neg (by rw [c2]; simp),if_neg (by rw [c3]; simp),if_pos c4]
  unfold callP
  rw [this]; rfl
 rw [c5] at c4
 simp only [Bool.not_true,Bool.false_eq_true,if_false]
 by_cases c6 : (curE r.Tellings).length = 60
 ·have : codeP r k n = 4 := by unfold codeP; rw [if_neg (by rw [c1]; simp),if_neg (by rw [c2]; simp),if_neg (by rw [c3]; simp),if_neg (by rw [c4]; simp),if_pos c6]
  unfold callP
  rw [this,if_pos (by rw [c6]; rfl)]; rfl
 have c0 : codeP r k n = 0 := by unfold codeP; rw [if_neg (by rw [c1]; simp),if_neg (by rw [c2]; simp),if_neg (by rw [c3]; simp),if_neg (by rw [c4]; simp),if_neg c6]
 rw [if_neg (by simpa using (show ¬ ((curE r.Tellings).length : Int) = 60 by omega)),ownEv_eq _ (by omega)]
 simp only [Option.bind_some]
 rw [guard_pos (by omega)]
 have hm := ris_mid (goodT_ris g3) (by omega)
 have ht := more_tell hg c0
 have hra := add_ris (goodT_ris g3) ht
 have hal := addS_len r.Tellings.Branches (curE r.Tellings ++ [nextE r k n])
 have hma := ris_mid hra (by omega)
 have e6 : zda r.Tellings.Branches (curE r.Tellings ++ [⟨(foldP (curE r.Tellings)).1.Next,r.Version,k,n⟩]) = some (addS r.Tellings.Branches (curE r.Tellings ++ [nextE r k n])) := zhA r.Tellings.Branches (curE r.Tellings ++ [nextE r k n]) hm.1 hm.2 (by simp; omega)
 rw [e6]
 simp only [Option.bind_some]
 rw [zeV ⟨addS r.Tellings.Branches (curE r.Tellings ++ [nextE r k n])⟩ hma.1 hma.2]
 simp only [Option.bind_some]
 unfold callP
 rw [c0]
 rfl
theorem zho (r : RegionT) (k : Int) (n : ByteArray) (hg : goodR r = true) : ∃ m,zbk (foldP (curE r.Tellings)).1 k n = some m ∧ ((decide (1 ≤ k ∧ k ≤ 6) && nameP n) = true → m.1 = (applyP (foldP (curE r.Tellings)).1 (nextE r k n)).isSome) := by
 have hgs := foldP_good (curE r.Tellings)
 cases c1 : decide (1 ≤ k ∧ k ≤ 6) && nameP n
 ·exact ⟨_,mayCome_tot _ _ _ hgs c1,fun h => by cases h⟩
 ·exact ⟨_,mayCome_eq (foldP (curE r.Tellings)).1 (nextE r k n) hgs (next_ev hg c1) rfl,fun _ => rfl⟩
theorem state_eq (r : RegionT) (hg : goodT r.Tellings = true) : zaQ r = some (foldP (curE r.Tellings)).1 := by
 have hl := curE_len hg
 unfold zaQ
 rw [zes _ hg]
 simp only [Option.bind_some]
 rw [zfy _ (by omega)]
 rfl
theorem zh4 (r : RegionT) (k : Int) (n : ByteArray) (hg : goodR r = true) : zaw r k n = if codeP r k n = 0 then none else some (codeP r k n) := by
 obtain ⟨g1,g2,g3,g4⟩ := goodR_parts hg
 have hl := curE_len g3
 have h12 := goodT_len g3
 obtain ⟨f1,f2⟩ := foldP_len (curE r.Tellings)
 obtain ⟨m,hm,hm2⟩ := zho r k n hg
 unfold zaw zad zW
 rw [zes _ g3,state_eq r g3]
 simp only [Option.bind_some]
 rw [hm,zdl,zbL]
 simp only [Option.bind_some]
 have e1 : (if (!decide (1 ≤ k ∧ k ≤ 6)) = true then some (⟨true⟩ : zbn) else some ⟨!nameP n⟩) = some ⟨!(decide (1 ≤ k ∧ k ≤ 6) && nameP n)⟩ := by
  cases decide (1 ≤ k ∧ k ≤ 6) <;> simp
 rw [e1]
 simp only [Option.bind_some]
 cases c1 : decide (1 ≤ k ∧ k ≤ 6) && nameP n
 ·have : codeP r k n = 1 := by unfold codeP; rw [if_pos c1]
  rw [this]; rfl
 have hm3 := hm2 c1
 simp only [Bool.not_true,Bool.false_eq_true,if_false]
 have e2 : ((r.Version.tmod 10) == r.Id) = actB r := rfl
 rw [e2]
 cases c2 : actB r
 ·have : codeP r k n = 2 := by unfold codeP; rw [if_neg (by rw [c1]; simp),if_pos c2]
  rw [this]; rfl
 simp only [Bool.not_true,Bool.false_eq_true,if_false]
 rw [containsS_eq _ _ (by omega)]
 simp only [Option.bind_some]
 have e3 : (if (k == 2) = true then some (⟨hasS (foldP (curE r.Tellings)).1.Signals n⟩ : zbo) else some ⟨false⟩) = some ⟨decide (k = 2) && hasS (foldP (curE r.Tellings)).1.Signals n⟩ := by
  by_cases hk2 : k = 2 <;> simp [hk2]
 rw [e3]
 simp only [Option.bind_some]
 cases c3 : decide (k = 2) && hasS (foldP (curE r.Tellings)).1.Signals n
 rotate_left
 ·have : codeP r k n = 5 := by unfold codeP; rw [if_neg (by rw [c1]; simp),if_neg (by rw [c2]; simp),if_pos c3]
  rw [this]; rfl
 simp only [Bool.false_eq_true,if_false]
 rw [hm3]
 cases c4 : (applyP (foldP (curE r.Tellings)).1 (nextE r k n)).isSome
 ·have : codeP r k n = 3 := by unfold codeP; rw [if_neg (by rw [c1]; simp),if_neg (by rw [c2]; simp),if_neg (by rw [c3]; simp),if_pos c4]
  rw [this]; rfl
 simp only [Bool.not_true,Bool.false_eq_true,if_false]
 by_cases c6 : (curE r.Tellings).length = 60
 ·have : codeP r k n = 4 := by unfold codeP; rw [if_neg (by rw [c1]; simp),if_neg (by rw [c2]; simp),if_neg (by rw [c3]; simp),if_neg (by rw [c4]; simp),if_pos c6]
  rw [this,if_pos (by rw [c6]; rfl)]; rfl
 have c0 : codeP r k n = 0 := by unfold codeP; rw [if_neg (by rw [c1]; simp),if_neg (by rw [c2]; simp),if_neg (by rw [c3]; simp),if_neg (by rw [c4]; simp),if_neg c6]
 rw [if_neg (by simpa using (show ¬ ((curE r.Tellings).length : Int) = 60 by omega)),c0]
 unfold zk
 rw [guard_pos (by omega)]
 simp only [Option.bind_some]
 rw [guard_pos (by omega)]
 have ht := more_tell hg c0
 have e6 : zcs r.Tellings (curE r.Tellings ++ [⟨(foldP (curE r.Tellings)).1.Next,r.Version,k,n⟩]) = some ⟨addS r.Tellings.Branches (curE r.Tellings ++ [nextE r k n])⟩ := zfH r.Tellings (curE r.Tellings ++ [nextE r k n]) (goodT_ris g3) (by omega) ht
 rw [e6]
 rfl
theorem zh5 (r : RegionT) (k : Int) (n : ByteArray) (hg : goodR r = true) (c0 : codeP r k n = 0) : zbb r k n = some (0,moreR r k n) := by
 obtain ⟨g1,g2,g3,g4⟩ := goodR_parts hg
 have hl := curE_len g3
 have h12 := goodT_len g3
 obtain ⟨f1,f2⟩ := foldP_len (curE r.Tellings)
 obtain ⟨m,hm,hm2⟩ := zho r k n hg
 obtain ⟨z1,z2,z3,z4,⟨t,z5⟩,z6⟩ := code_zero c0
 have c1 : (decide (1 ≤ k ∧ k ≤ 6) && nameP n) = true := by simp [z1,z2]
 have hm3 := hm2 c1
 rw [z5] at hm3
 unfold zbb zad zW
 rw [zes _ g3,state_eq r g3]
 simp only [Option.bind_some]
 rw [hm,zdl,zbL]
 simp only [Option.bind_some]
 rw [decide_eq_true z1,z2]
 simp only [Bool.not_true,Bool.false_eq_true,if_false,Option.bind_some]
 have e2 : ((r.Version.tmod 10) == r.Id) = actB r := rfl
 rw [e2,z3]
 simp only [Bool.not_true,Bool.false_eq_true,if_false]
 rw [containsS_eq _ _ (by omega)]
 simp only [Option.bind_some]
 have e3 : (if (k == 2) = true then some (⟨hasS (foldP (curE r.Tellings)).1.Signals n⟩ : zbp) else some ⟨false⟩) = some ⟨false⟩ := by
  by_cases hk2 : k = 2
  ·simp [hk2,z4 hk2]
  ·simp [hk2]
 rw [e3]
 simp only [Option.bind_some,Bool.false_eq_true,if_false]
 rw [hm3]
 simp only [Option.isSome_some,Bool.not_true,Bool.false_eq_true,if_false]
 rw [if_neg (by simpa using (show ¬ ((curE r.Tellings).length : Int) = 60 by omega))]
 unfold zk
 rw [guard_pos (by omega)]
 simp only [Option.bind_some]
 rw [guard_pos (by omega)]
 have ht := more_tell hg c0
 have e6 : zcs r.Tellings (curE r.Tellings ++ [⟨(foldP (curE r.Tellings)).1.Next,r.Version,k,n⟩]) = some ⟨addS r.Tellings.Branches (curE r.Tellings ++ [nextE r k n])⟩ := zfH r.Tellings (curE r.Tellings ++ [nextE r k n]) (goodT_ris g3) (by omega) ht
 rw [e6]
 rfl
theorem lostA_ok {t : TellingsT} (ht : ok_Tellings t) : ∀ n ∈ lostA t,ok_S n := by
 intro n hn
 have := ((stps_ok (ownS t) (allS t.Branches) [] (by simp [ascS])).2 n).1 hn
 rcases this with h | ⟨h,_⟩
 ·simp at h
 ·unfold allS at h
  rw [List.mem_flatMap] at h
  obtain ⟨b,hb,h⟩ := h
  unfold sigL at h
  rw [List.mem_map] at h
  obtain ⟨e,he,rfl⟩ := h
  exact ((ht.2 b hb).2 e (List.mem_filter.1 he).1).2.2.2
def rpAt (r : RegionT) (l : List ByteArray) (i : Nat) : RegionT × Nat := (l.take i).foldl reapS (r,0)
theorem rpAt_snoc {r : RegionT} {l : List ByteArray} {i : Nat} (h : i < l.length) : rpAt r l (i + 1) = reapS (rpAt r l i) (nth l i) := by
 unfold rpAt
 rw [← take_snoc h,List.foldl_append]
 rfl
theorem rpAt_inv {r : RegionT} {l : List ByteArray} (hg : goodR r = true) (hr : ok_Region r) (hl : ∀ n ∈ l,ok_S n) (i : Nat) : goodR (rpAt r l i).1 = true ∧ ok_Region (rpAt r l i).1 ∧ (rpAt r l i).2 ≤ i := by
 obtain ⟨h1,h2,h3⟩ := reap_inv (l.take i) (r,0) hg hr fun n hn => hl n (List.mem_of_mem_take hn)
 refine ⟨h1,h2,?_⟩
 have : (l.take i).length ≤ i := by rw [List.length_take]; omega
 unfold rpAt
 simp only at h3
 omega
theorem zg1 (r : RegionT) (hg : goodR r = true) (hr : ok_Region r) : zdr r = some ((reapP r (lostA r.Tellings)).1,(((reapP r (lostA r.Tellings)).2 : Nat) : Int)) := by
 obtain ⟨g1,g2,g3,g4⟩ := goodR_parts hg
 have hls := lostA_ok hr.2.2
 have hll : (lostA r.Tellings).length ≤ 720 := by
  have := lostD_len r.Tellings
  unfold lostD at this
  rw [if_pos g3] at this
  exact this
 unfold zdr
 rw [zhC _ hr.2.2 g3]
 simp only [Option.bind_some]
 have key := accL_loop (step := zav (lostA r.Tellings)) (fun i (c : RegionT × Nat) => (⟨(c.2 : Int),i,c.1.Id,c.1.Version,c.1.Tellings.Branches⟩ : zdq)) (lostA r.Tellings).length (fun i => rpAt r (lostA r.Tellings) i) (fun c => (⟨(c.2 : Int),c.1.Id,c.1.Version,c.1.Tellings.Branches⟩ : zfn)) (fun i hi => ?_) ?_
 ·have e0 : rpAt r (lostA r.Tellings) 0 = (r,0) := rfl
  rw [e0] at key
  have e1 : rpAt r (lostA r.Tellings) (lostA r.Tellings).length = reapP r (lostA r.Tellings) := by unfold rpAt reapP; rw [List.take_length]
  rw [e1] at key
  have key' : loopF (zav (lostA r.Tellings)) ⟨0,0,r.Id,r.Version,r.Tellings.Branches⟩ = _ := key
  rw [key']
  rfl
 ·obtain ⟨i1,i2,i3⟩ := rpAt_inv hg hr hls i
  have e1 : wI ((i : Int) + 1) = ((i + 1 : Nat) : Int) := by rw [wI_id (by omega)]; omega
  have e2 : wI (((rpAt r (lostA r.Tellings) i).2 : Int) + 1) = (((rpAt r (lostA r.Tellings) i).2 + 1 : Nat) : Int) := by rw [wI_id (by omega)]; omega
  unfold zav
  simp only [Int.toNat_natCast,e1,e2]
  rw [if_pos (by rw [decide_eq_true_eq]; omega),guard_pos (by omega)]
  have hc : zcN ⟨(rpAt r (lostA r.Tellings) i).1.Id,(rpAt r (lostA r.Tellings) i).1.Version,⟨(rpAt r (lostA r.Tellings) i).1.Tellings.Branches⟩⟩ 2 (nth (lostA r.Tellings) i) = some (callP (rpAt r (lostA r.Tellings) i).1 2 (nth (lostA r.Tellings) i)) := zgl _ _ _ i1 i2 (⟨by omega,by omega⟩ : ok_I 2) (hls _ (nth_mem hi))
  rw [hc,rpAt_snoc hi]
  simp only [Option.bind_some]
  unfold callP reapS
  by_cases c0 : codeP (rpAt r (lostA r.Tellings) i).1 2 (nth (lostA r.Tellings) i) = 0
  ·simp only [c0,if_true,beq_self_eq_true]
  ·simp only [c0,if_false]
   rw [if_neg (by simpa using c0)]
 ·unfold zav
  dsimp only
  rw [if_neg (by simp)]
theorem zhN (r : RegionT) (hg : goodR r = true) (hr : ok_Region r) : zaV r = some ((((reapP r (lostA r.Tellings)).2 : Nat) : Int),(reapP r (lostA r.Tellings)).1) := by
 obtain ⟨g1,g2,g3,g4⟩ := goodR_parts hg
 have hls := lostA_ok hr.2.2
 have hll : (lostA r.Tellings).length ≤ 720 := by
  have := lostD_len r.Tellings
  unfold lostD at this
  rw [if_pos g3] at this
  exact this
 unfold zaV
 rw [zfs _ g3,lost_same]
 simp only [Option.bind_some]
 have key := accL_loop (step := zO (lostA r.Tellings)) (fun i (c : RegionT × Nat) => (⟨(c.2 : Int),i,c.1.Id,c.1.Version,c.1.Tellings.Branches⟩ : zbd)) (lostA r.Tellings).length (fun i => rpAt r (lostA r.Tellings) i) (fun c => (⟨(c.2 : Int),c.1.Id,c.1.Version,c.1.Tellings.Branches⟩ : zd0)) (fun i hi => ?_) ?_
 ·have e0 : rpAt r (lostA r.Tellings) 0 = (r,0) := rfl
  rw [e0] at key
  have e1 : rpAt r (lostA r.Tellings) (lostA r.Tellings).length = reapP r (lostA r.Tellings) := by unfold rpAt reapP; rw [List.take_length]
  rw [e1] at key
  have key' : loopF (zO (lostA r.Tellings)) ⟨0,0,r.Id,r.Version,r.Tellings.Branches⟩ = _ := key
  rw [key']
  rfl
 ·obtain ⟨i1,i2,i3⟩ := rpAt_inv hg hr hls i
  have e1 : wI ((i : Int) + 1) = ((i + 1 : Nat) : Int) := by rw [wI_id (by omega)]; omega
  have e2 : wI (((rpAt r (lostA r.Tellings) i).2 : Int) + 1) = (((rpAt r (lostA r.Tellings) i).2 + 1 : Nat) : Int) := by rw [wI_id (by omega)]; omega
  unfold zO
  simp only [Int.toNat_natCast,e1,e2]
  rw [if_pos (by rw [decide_eq_true_eq]; omega),guard_pos (by omega)]
  have hc : zaw ⟨(rpAt r (lostA r.Tellings) i).1.Id,(rpAt r (lostA r.Tellings) i).1.Version,⟨(rpAt r (lostA r.Tellings) i).1.Tellings.Branches⟩⟩ 2 (nth (lostA r.Tellings) i) = _ := zh4 (rpAt r (lostA r.Tellings) i).1 2 (nth (lostA r.Tellings) i) i1
  rw [hc,rpAt_snoc hi]
  unfold reapS
  by_cases c0 : codeP (rpAt r (lostA r.Tellings) i).1 2 (nth (lostA r.Tellings) i) = 0
  ·have hd : zbb ⟨(rpAt r (lostA r.Tellings) i).1.Id,(rpAt r (lostA r.Tellings) i).1.Version,⟨(rpAt r (lostA r.Tellings) i).1.Tellings.Branches⟩⟩ 2 (nth (lostA r.Tellings) i) = _ := zh5 (rpAt r (lostA r.Tellings) i).1 2 (nth (lostA r.Tellings) i) i1 c0
   simp only [c0,if_true]
   rw [hd]
   rfl
  ·simp only [c0,if_false]
   rw [if_neg (by simpa using c0)]
 ·unfold zO
  dsimp only
  rw [if_neg (by simp)]
def reapD (r : RegionT) : RegionT × Int × Bool := if (goodR r && actB r) = true then ((reapP r (lostA r.Tellings)).1,(((reapP r (lostA r.Tellings)).2 : Nat) : Int),true) else (⟨0,0,⟨[]⟩⟩,0,false)
theorem zhO (r : RegionT) (hr : ok_Region r) : zeD r = some (reapD r) := by
 unfold zeD reapD zcB zbx
 rw [zab _ hr]
 simp only [Option.bind_some]
 have e2 : ((r.Version.tmod 10) == r.Id) = actB r := rfl
 rw [e2]
 cases hg : goodR r
 ·simp
 cases ha : actB r
 ·simp
 have g3 := goodR_tell hg
 have hm := mid_small (goodT_small g3)
 simp only [Bool.not_true,Bool.false_eq_true,if_false,Option.bind_some]
 rw [zeV _ hm.1 hm.2]
 simp only [Option.bind_some]
 rw [zg1 _ hg hr]
 rfl
theorem zgm (r : RegionT) (hr : ok_Region r) : zdU r = some (reapD r) := by
 unfold zdU reapD zW zbH
 rw [zbZ _ hr]
 simp only [Option.bind_some]
 have e2 : ((r.Version.tmod 10) == r.Id) = actB r := rfl
 rw [e2]
 cases hg : goodR r
 ·simp
 cases ha : actB r
 ·simp
 have g3 := goodR_tell hg
 have hm := mid_small (goodT_small g3)
 simp only [Bool.not_true,Bool.false_eq_true,if_false,Option.bind_some]
 rw [cloneMid_eq _ hm]
 simp only [Option.bind_some]
 rw [zhN _ hg hr]
 rfl
end Go.TL
set_option maxRecDepth 4000
namespace Go.TL
abbrev okT (t : TellingsT) : Prop := t.Branches.length ≤ 16 ∧ ∀ b ∈ t.Branches,okH 60 b.Events
theorem okT_ok {t : TellingsT} (h : okT t) : ok_Tellings t := ⟨by have := h.1; omega,fun b hb => okH_ok (h.2 b hb) (by omega)⟩
end Go.TL
set_option maxRecDepth 4000
namespace Go.TL
theorem sameEvents_eq (a b : List EventT) (ha : a.length ≤ 9223372036854775807) : zdo a b = some (decide (a = b)) := by
 unfold zdo
 by_cases hl : a.length = b.length
 ·rw [if_neg (by simp [hl])]
  have key := eq_loop (step := za9 a b) (fun i => (⟨i⟩ : zdn)) a b hl (fun i hi => ?_) ?_
  ·rw [key]; by_cases h : a = b <;> simp [h]
  ·unfold za9
   simp (disch := omega) only [decide_eq_true_eq,if_pos,guard_pos,Int.toNat_natCast,wI_id]
   rw [evEq]
   by_cases h : nth a i = nth b i <;> simp [h]
  ·unfold za9
   rw [if_neg (by simp)]
 ·rw [if_pos (by simp; omega)]
  simp [show a ≠ b from fun h => hl (by rw [h])]
theorem bind_eq_of {α β : Type} {o : Option α} {x : α} {f : α → Option β} {r : Option β} (h : o = some x) (h2 : f x = r) : o.bind f = r := by rw [h]; exact h2
end Go.TL
set_option maxRecDepth 4000
namespace Go.TL
theorem pre_nth {c b : List EventT} (h : c <+: b) {i : Nat} (hi : i < c.length) : nth c i = nth b i := by
 obtain ⟨t,rfl⟩ := h
 rw [nth_eq hi,nth_eq (by rw [List.length_append]; omega),List.getElem_append_left hi]
theorem beg_pre {c b : List EventT} (hc : histP c = true) (hb : histP b = true) : begB c b = true ↔ c <+: b := by
 rw [begB_iff hc hb]
 constructor
 ·rintro ⟨h1,h2⟩
  rw [List.prefix_iff_eq_take]
  refine list_ext (by rw [List.length_take]; omega) fun j hj => ?_
  rw [nth_take hj]
  exact h2 j hj
 ·intro h
  exact ⟨h.length_le,fun i hi => pre_nth h hi⟩
def covs (l : List BranchT) (e : List EventT) : Prop := ∃ b ∈ l,e <+: b.Events
def allH (l : List BranchT) : Prop := ∀ b ∈ l,histP b.Events = true
theorem put_mem {h : List EventT} {l : List BranchT} {b : BranchT} : b ∈ putB h l false ↔ (b ∈ l ∧ begB b.Events h = false) ∨ b = ⟨h⟩ := by
 rw [(putB_perm h l).mem_iff,List.mem_append,List.mem_singleton]
 unfold leaves
 rw [List.mem_filter]
 simp
theorem add_covs {l : List BranchT} {h e : List EventT} (hl : allH l) (hh : histP h = true) : covs (addS l h) e ↔ covs l e ∨ e <+: h := by
 unfold addS
 split
 ·rename_i ha
  refine ⟨.inl,fun hc => hc.elim id fun he => ?_⟩
  obtain ⟨b,hb,h1⟩ := List.any_eq_true.1 ha
  exact ⟨b,hb,he.trans ((beg_pre hh (hl b hb)).1 h1)⟩
 ·constructor
  ·rintro ⟨b,hb,h1⟩
   rcases put_mem.1 hb with h2 | h2
   ·exact .inl ⟨b,h2.1,h1⟩
   ·subst h2; exact .inr h1
  ·rintro (⟨b,hb,h1⟩ | h1)
   ·cases hbh : begB b.Events h
    ·exact ⟨b,put_mem.2 (.inl ⟨hb,hbh⟩),h1⟩
    ·exact ⟨⟨h⟩,put_mem.2 (.inr rfl),h1.trans ((beg_pre (hl b hb) hh).1 hbh)⟩
   ·exact ⟨⟨h⟩,put_mem.2 (.inr rfl),h1⟩
theorem ris_allH {l : List BranchT} (h : risT l) : allH l := fun b hb => tell_hist (h.1 b hb)
theorem mrg_covs {e : List EventT} : ∀ {m l : List BranchT},risT l → (∀ x ∈ m,tellP x.Events = true) → (covs (mrgS l m) e ↔ covs l e ∨ covs m e)
 | [],l,h,_ => by
  show covs l e ↔ _
  refine ⟨.inl,fun h => h.elim id fun ⟨b,hb,_⟩ => by simp at hb⟩
 | x :: m,l,h,hm => by
  have hx := hm x (by simp)
  have ih := mrg_covs (e := e) (m := m) (l := addS l x.Events) (add_ris h hx) fun y hy => hm y (List.mem_cons_of_mem _ hy)
  show covs (mrgS (addS l x.Events) m) e ↔ _
  rw [ih,add_covs (ris_allH h) (tell_hist hx)]
  constructor
  ·rintro ((h1 | h1) | ⟨b,hb,h1⟩)
   ·exact .inl h1
   ·exact .inr ⟨x,by simp,h1⟩
   ·exact .inr ⟨b,List.mem_cons_of_mem _ hb,h1⟩
  ·rintro (h1 | ⟨b,hb,h1⟩)
   ·exact .inl (.inl h1)
   ·rcases List.mem_cons.1 hb with e1 | e1
    ·subst e1; exact .inl (.inr h1)
    ·exact .inr ⟨b,e1,h1⟩
theorem ris_apart {l : List BranchT} (h : risT l) {a b : BranchT} (ha : a ∈ l) (hb : b ∈ l) (hab : a.Events <+: b.Events) : a = b := by
 have hp : l.Pairwise fun a b => (begB a.Events b.Events = false ∧ begB b.Events a.Events = false) := h.2.imp fun {a b} ⟨h1,h2⟩ => ⟨h2,by
  cases e : begB b.Events a.Events
  ·rfl
  ·have := begB_ge e
   have := brL_iff.1 h1
   omega⟩
 have hbeg := (beg_pre (tell_hist (h.1 a ha)) (tell_hist (h.1 b hb))).2 hab
 obtain ⟨i,hi,rfl⟩ := List.getElem_of_mem ha
 obtain ⟨j,hj,rfl⟩ := List.getElem_of_mem hb
 rw [List.pairwise_iff_getElem] at hp
 rcases Nat.lt_trichotomy i j with h1 | h1 | h1
 ·have := (hp i j hi hj h1).1
  rw [hbeg] at this; cases this
 ·subst h1; rfl
 ·have := (hp j i hj hi h1).2
  rw [hbeg] at this; cases this
theorem ris_sub {l m : List BranchT} (hl : risT l) (hm : risT m) (h : ∀ e,covs l e ↔ covs m e) {x : BranchT} (hx : x ∈ l) : x ∈ m := by
 obtain ⟨y,hy,h1⟩ := (h x.Events).1 ⟨x,hx,List.prefix_refl _⟩
 obtain ⟨z,hz,h2⟩ := (h y.Events).2 ⟨y,hy,List.prefix_refl _⟩
 have hxz := ris_apart hl hx hz (h1.trans h2)
 subst hxz
 have : x.Events = y.Events := h1.eq_of_length_le h2.length_le
 have : x = y := by
  cases x; cases y
  simp only at this
  rw [this]
 rw [this]; exact hy
theorem ris_ext {l m : List BranchT} (hl : risT l) (hm : risT m) (h : ∀ e,covs l e ↔ covs m e) : l = m :=
 asc_ext brL_irr brL_trans (hl.2.imp fun h => h.1) (hm.2.imp fun h => h.1) fun z => ⟨fun hz => ris_sub hl hm h hz,fun hz => ris_sub hm hl (fun e => (h e).symm) hz⟩
theorem mrg_again' {l m : List BranchT} (hl : risT l) (hm : risT m) : mrgS (mrgS l m) m = mrgS l m :=
 ris_ext (mrg_ris (mrg_ris hl hm.1) hm.1) (mrg_ris hl hm.1) fun e => by
  rw [mrg_covs (mrg_ris hl hm.1) hm.1,mrg_covs hl hm.1]
  constructor
  ·rintro (h | h)
   ·exact h
   ·exact .inr h
  ·exact .inl
theorem has_covs {t : TellingsT} {l : List EventT} (ht : goodT t = true) (hl : tellP l = true) : hasP t l = true ↔ covs t.Branches l := by
 unfold hasP covs
 rw [List.any_eq_true]
 constructor
 ·rintro ⟨b,hb,h⟩
  exact ⟨b,hb,(beg_pre (tell_hist hl) (ris_allH (goodT_ris ht) b hb)).1 h⟩
 ·rintro ⟨b,hb,h⟩
  exact ⟨b,hb,(beg_pre (tell_hist hl) (ris_allH (goodT_ris ht) b hb)).2 h⟩
theorem sameTellings_eq (t : TellingsT) (h : midT t.Branches) : zci t t = some true := by
 unfold zci
 rw [if_neg (by simp)]
 have key := all_loop (step := zaH t t) (fun i => (⟨i⟩ : zct)) t.Branches.length (fun _ => true) (.inr () : Unit ⊕ Unit) (.inl ()) (fun i hi hv => ?_) (fun _ => ?_)
 ·rw [key,if_pos (allN_iff.2 fun _ _ => rfl)]
  rfl
 ·have hl := h.1
  have hb := h.2 i hi
  have e1 : wI ((i : Int) + 1) = ((i + 1 : Nat) : Int) := by rw [wI_id (by omega)]; omega
  unfold zaH
  simp only [Int.toNat_natCast,e1]
  rw [if_pos (by rw [decide_eq_true_eq]; omega),guard_pos (by omega),guard_pos (by omega),sameEvents_eq _ _ (by omega)]
  simp
 ·unfold zaH
  dsimp only
  rw [if_neg (by simp)]
theorem has_mem {m t : TellingsT} (hm : goodT m = true) (ht : goodT t = true) (h : ∀ e,covs t.Branches e → covs m.Branches e) {i : Nat} (hi : i < t.Branches.length) : hasH m (nth t.Branches i).Events = (true,true) := by
 have h1 := goodT_tell ht hi
 unfold hasH
 rw [hm,h1]
 rw [if_pos (by rfl),(has_covs hm h1).2 (h _ ⟨nth t.Branches i,nth_mem hi,List.prefix_refl _⟩)]
end Go.TL
set_option maxRecDepth 4000
namespace Go.TL
abbrev okRg (r : RegionT) : Prop := ok_I r.Id ∧ ok_I r.Version ∧ okT r.Tellings
theorem okRg_ok {r : RegionT} (h : okRg r) : ok_Region r := ⟨h.1,h.2.1,okT_ok h.2.2⟩
theorem okT_nil : okT ⟨[]⟩ := ⟨by simp,fun b hb => by simp at hb⟩
theorem okRg_zero : okRg ⟨0,0,⟨[]⟩⟩ := ⟨(⟨by omega,by omega⟩ : ok_I 0),(⟨by omega,by omega⟩ : ok_I 0),okT_nil⟩
theorem own_good {r : RegionT} (hg : goodR r = true) : zbU r.Tellings = some r.Tellings := by
 have hm := mid_small (goodT_small (goodR_tell hg))
 exact zeV _ hm.1 hm.2
theorem spec_TakeLead_eq' (r : RegionT) (hr : ok_Region r) : zed r = some (leadD r) := by
 unfold zed leadD zbx
 rw [zab _ hr]
 simp only [Option.bind_some]
 cases hg : goodR r
 ·simp
 rw [if_neg (by simp),if_pos rfl,zgN]
 simp only [Option.bind_some]
 cases hn : (nextP r.Version r.Id).2
 ·simp
 rw [if_neg (by simp),if_pos rfl,own_good hg]
 rfl
theorem spec_WordOf_eq' (r : RegionT) (hr : ok_Region r) : zdy r = some (wordD r) := by
 unfold zdy wordD
 rw [zab _ hr]
 simp only [Option.bind_some]
 cases hg : goodR r
 ·simp
 rw [if_neg (by simp),if_pos rfl,own_good hg]
 rfl
def tcallD (r : RegionT) (k : Int) (n : ByteArray) : RegionT × Int := if goodR r = true then callP r k n else (⟨0,0,⟨[]⟩⟩,1)
theorem spec_TakeCall_eq' (r : RegionT) (k : Int) (n : ByteArray) (hr : ok_Region r) (hk : ok_I k) (hn : ok_S n) : zdb r k n = some (tcallD r k n) := by
 unfold zdb tcallD zbx
 rw [zab _ hr]
 simp only [Option.bind_some]
 cases hg : goodR r
 ·simp
 rw [if_neg (by simp),if_pos rfl,own_good hg]
 simp only [Option.bind_some]
 rw [zgl _ _ _ hg hr hk hn]
 rfl
theorem zg2 (r : RegionT) (w : WordT) (hr : ok_Region r) (hw : ok_Word w) : zds r w = some (hearD r w) := by
 unfold zds hearD
 rw [zab _ hr]
 simp only [Option.bind_some]
 cases hg : goodR r
 ·simp
 rw [zab _ (show ok_Region ⟨0,w.Version,w.Tellings⟩ from ⟨by unfold ok_I; simp only; omega,hw.1,hw.2⟩)]
 simp only [Option.bind_some]
 cases hg2 : goodR ⟨0,w.Version,w.Tellings⟩
 ·simp
 have g1 := goodR_tell hg
 have g2 := goodR_tell hg2
 simp only [Bool.not_true,Bool.false_eq_true,if_false,Option.bind_some]
 rw [zfj _ _ hr.2.2 hw.2]
 simp only [Option.bind_some]
 unfold mrgD
 rw [g1,show goodT w.Tellings = true from g2]
 simp only [Bool.true_and]
 by_cases hc : (mrgS r.Tellings.Branches w.Tellings.Branches).length ≤ 12
 ·simp only [hc,decide_true,if_true,Bool.not_true,Bool.false_eq_true,if_false]
  by_cases hv : w.Version > r.Version
  ·simp only [hv,decide_true,if_true,Option.bind_some]
   rw [Int.max_eq_right (by omega)]
  ·simp only [hv,decide_false,Bool.false_eq_true,if_false,Option.bind_some]
   rw [Int.max_eq_left (by omega)]
 ·simp [hc]
theorem lead_okRg {r : RegionT} (h : okRg r) : okRg (leadD r).1 := by
 unfold leadD
 split
 ·split
  ·rename_i hn
   have := next_facts hn
   exact ⟨h.1,(⟨by omega,by omega⟩ : ok_I (nextP r.Version r.Id).1),h.2.2⟩
  ·exact okRg_zero
 ·exact okRg_zero
theorem word_okT {r : RegionT} (h : okRg r) : ok_I (wordD r).1.Version ∧ okT (wordD r).1.Tellings := by
 unfold wordD
 split
 ·exact ⟨h.2.1,h.2.2⟩
 ·exact ⟨(⟨by omega,by omega⟩ : ok_I 0),okT_nil⟩
theorem curE_okH {t : TellingsT} (h : okT t) : okH 60 (curE t) := by
 by_cases h0 : t.Branches.length = 0
 ·unfold curE; rw [if_pos h0]; exact ⟨by simp,fun e he => by simp at he⟩
 ·exact h.2 _ (cur_mem h0)
theorem more_okRg {r : RegionT} {k : Int} {n : ByteArray} (hg : goodR r = true) (c0 : codeP r k n = 0) (h : okRg r) (hk : ok_I k) (hn : n.size ≤ 100) : okRg (moreR r k n) := by
 have hgm := more_good hg c0
 have h12 := goodT_len (goodR_tell hgm)
 obtain ⟨z1,z2,z3,z4,z5,z6⟩ := code_zero c0
 have hl := curE_len (goodR_tell hg)
 have hcE := curE_okH h.2.2
 have := goodS_num (foldP_good (curE r.Tellings))
 refine ⟨h.1,h.2.1,by omega,fun b hb => ?_⟩
 rcases addS_mem hb with e | e
 ·exact h.2.2.2 b e
 ·rw [e]
  refine okH_up (okH_add ⟨Nat.le_refl _,hcE.2⟩ (⟨(⟨by omega,by omega⟩ : ok_I (foldP (curE r.Tellings)).1.Next),h.2.1,hk,hn⟩ : okE (nextE r k n))) (by omega)
theorem tcall_okRg {r : RegionT} {k : Int} {n : ByteArray} (h : okRg r) (hk : ok_I k) (hn : n.size ≤ 100) : okRg (tcallD r k n).1 := by
 unfold tcallD
 split
 ·rename_i hg
  unfold callP
  by_cases c0 : codeP r k n = 0
  ·simp only [if_pos c0]; exact more_okRg hg c0 h hk hn
  ·simp only [if_neg c0]; exact h
 ·exact okRg_zero
theorem mrg_mem {b : BranchT} : ∀ {m l : List BranchT},b ∈ mrgS l m → b ∈ l ∨ b ∈ m
 | [],l,h => .inl h
 | x :: m,l,h => by
  have h' : b ∈ mrgS (addS l x.Events) m := h
  rcases mrg_mem h' with h1 | h1
  ·rcases addS_mem h1 with h2 | h2
   ·exact .inl h2
   ·right
    have : b = x := h2
    rw [this]; exact List.mem_cons_self
  ·exact .inr (List.mem_cons_of_mem _ h1)
theorem hear_okRg {r : RegionT} {w : WordT} (h : okRg r) (hv : ok_I w.Version) (hw : okT w.Tellings) : okRg (hearD r w).1 := by
 unfold hearD
 split
 ·rename_i hc
  simp only [Bool.and_eq_true,decide_eq_true_eq] at hc
  refine ⟨h.1,?_,by show (mrgS _ _).length ≤ 16; omega,fun b hb => ?_⟩
  ·have h1 := h.2.1
   unfold ok_I at *
   simp only
   omega
  ·rcases mrg_mem hb with e | e
   ·exact h.2.2.2 b e
   ·exact hw.2 b e
 ·exact okRg_zero
theorem newRegion_eq (a : Int) : zcE a = some (if 0 ≤ a ∧ a ≤ 9 then (⟨a,0,⟨[]⟩⟩,true) else (⟨0,0,⟨[]⟩⟩,false)) := by
 unfold zcE
 rw [zcK]
 simp only [Option.bind_some]
 by_cases h : 0 ≤ a ∧ a ≤ 9
 ·simp [h]
 ·simp [h]
theorem new_okRg (a : Int) : okRg (if 0 ≤ a ∧ a ≤ 9 then ((⟨a,0,⟨[]⟩⟩ : RegionT),true) else (⟨0,0,⟨[]⟩⟩,false)).1 := by
 split
 ·exact ⟨(⟨by omega,by omega⟩ : ok_I a),(⟨by omega,by omega⟩ : ok_I 0),okT_nil⟩
 ·exact okRg_zero
set_option maxHeartbeats 2000000 in
theorem region_ok {c : l1CurT} {K : Int} (hc : cur c K) (h0 : 0 ≤ K) (hK : K ≤ 4611686018427360000) : okO (fun r => okRg r.1 ∧ cur r.2 (K + 300)) (zam c) := by
 unfold zam
 refine pick_b hc (by omega) (by omega) fun x1 c1 p1 _ q1 h1 => ?_
 have q1 := q1 (by omega)
 rw [newRegion_eq]
 refine okO.bind_some ?_
 rw [newRegion_eq]
 refine okO.bind_some ?_
 have n1 := new_okRg x1
 generalize (if 0 ≤ x1 ∧ x1 ≤ 9 then ((⟨x1,0,⟨[]⟩⟩ : RegionT),true) else (⟨0,0,⟨[]⟩⟩,false)).1 = r1 at n1 ⊢
 have n2 := new_okRg (wI (1 - r1.Id))
 generalize (if 0 ≤ wI (1 - r1.Id) ∧ wI (1 - r1.Id) ≤ 9 then ((⟨wI (1 - r1.Id),0,⟨[]⟩⟩ : RegionT),true) else (⟨0,0,⟨[]⟩⟩,false)).1 = r2 at n2 ⊢
 refine pick_b h1 (by omega) (by omega) fun x2 c2 p2 _ q2 h2 => ?_
 have q2 := q2 (by omega)
 refine okO.bind (P := fun y => okRg ⟨y.b2_0,y.b2_1,⟨y.b2_2⟩⟩ ∧ cur ⟨y.b0_0,y.b0_1,y.b0_2⟩ (K + 200)) ?_ fun y ⟨y1,y2⟩ => ?_
 ·refine okO.loop (fun g => 0 ≤ g.t7 ∧ g.t7 ≤ 14 ∧ okRg ⟨g.b2_0,g.b2_1,⟨g.b2_2⟩⟩ ∧ okRg ⟨g.b3_0,g.b3_1,⟨g.b3_2⟩⟩ ∧ cur ⟨g.b0_0,g.b0_1,g.b0_2⟩ (K + 4 + 12 * (14 - g.t7))) (fun g => g.t7.toNat)
   ⟨p2,by simp only; omega,⟨n1.1,n1.2.1,okT_nil⟩,⟨n2.1,n2.2.1,okT_nil⟩,h2.up (by simp only; omega)⟩ fun g ⟨g1,g2,g3,g4,g5⟩ => ?_
  unfold zbV
  refine okO.ite (fun hc => ?_) (fun hc => okO.some ⟨g3,g5.up (by omega)⟩)
  have hc' : g.t7 > 0 := by simpa using hc
  have hw : wI (g.t7 - 1) = g.t7 - 1 := wI_id (by omega)
  refine okO.bind (P := fun p => okRg ⟨p.b4_0,p.b4_1,⟨p.b4_2⟩⟩ ∧ cur ⟨p.b0_0,p.b0_1,p.b0_2⟩ (K + 4 + 12 * (14 - g.t7) + 2)) ?_ fun p ⟨m1,m2⟩ => ?_
  ·exact one_b g5 (by omega) (by omega) fun b c3 h3 => okO.ite (fun _ => okO.some ⟨g4,h3⟩) (fun _ => okO.some ⟨g3,h3⟩)
  refine okO.bind (P := fun q => okRg ⟨q.b4_0,q.b4_1,⟨q.b4_2⟩⟩ ∧ cur ⟨q.b0_0,q.b0_1,q.b0_2⟩ (K + 4 + 12 * (14 - g.t7) + 12)) ?_ fun q ⟨o1,o2⟩ => ?_
  ·refine pick_b m2 (by omega) (by omega) fun x4 c4 p4 _ q4 h4 => ?_
   refine okO.ite (fun _ => ?_) (fun _ => okO.ite (fun _ => ?_) (fun _ => ?_))
   ·rw [spec_TakeLead_eq' _ (okRg_ok m1)]
    exact okO.bind_some (okO.some ⟨lead_okRg m1,h4.up (by omega)⟩)
   ·rw [spec_WordOf_eq' _ (okRg_ok g4)]
    refine okO.bind_some ?_
    have w4 := word_okT g4
    refine okO.bind (P := fun q => ok_I q.b5_0 ∧ okT ⟨q.c6⟩) ?_ fun q ⟨v1,v2⟩ => ?_
    ·refine okO.ite (fun _ => ?_) (fun _ => okO.some w4)
     rw [spec_WordOf_eq' _ (okRg_ok g3)]
     exact okO.bind_some (okO.some (word_okT g3))
    ·rw [zg2 _ _ (okRg_ok m1) ⟨v1,okT_ok v2⟩]
     exact okO.bind_some (okO.ite (fun _ => okO.some ⟨hear_okRg m1 v1 v2,h4.up (by omega)⟩) (fun _ => okO.some ⟨m1,h4.up (by omega)⟩))
   ·refine among_m h4 (by omega) (by simp) fun y c5 hy h5 => ?_
    have hy' : ok_I y := mem_int (by decide) hy
    refine okO.bind (P := fun q => cur ⟨q.b0_0,q.b0_1,q.b0_2⟩ (K + 4 + 12 * (14 - g.t7) + 8)) ?_ fun q hq => ?_
    ·exact okO.ite (fun _ => one_b h5 (by omega) (by omega) fun b c6 h6 => okO.some (h6.up (by omega))) (fun _ => okO.some (h5.up (by omega)))
    refine okO.ite (fun _ => ?_) (fun _ => ?_)
    ·refine name_b hq (by omega) fun n c7 hn h7 => ?_
     rw [spec_TakeCall_eq' _ _ _ (okRg_ok m1) (⟨by omega,by omega⟩ : ok_I 2) (small_ok hn)]
     exact okO.bind_some (okO.some ⟨tcall_okRg m1 (⟨by omega,by omega⟩ : ok_I 2) hn,h7.up (by omega)⟩)
    ·refine name_b hq (by omega) fun n c7 hn h7 => ?_
     rw [spec_TakeCall_eq' _ _ _ (okRg_ok m1) hy' (small_ok hn)]
     exact okO.bind_some (okO.some ⟨tcall_okRg m1 hy' hn,h7.up (by omega)⟩)
  ·refine okO.ite (fun _ => okO.some ?_) (fun _ => okO.some ?_)
   ·simp only [hw]
    exact ⟨⟨by omega,by omega,o1,g4,o2.up (by omega)⟩,by omega⟩
   ·simp only [hw]
    exact ⟨⟨by omega,by omega,g3,o1,o2.up (by omega)⟩,by omega⟩
 refine pick_b y2 (by omega) (by omega) fun x6 c6 p6 _ q6 h6 => ?_
 refine okO.ite (fun _ => ?_) (fun _ => okO.ite (fun _ => ?_) (fun _ => okO.some ⟨y1,h6.up (by omega)⟩))
 ·exact among_m h6 (by omega) (by simp) fun y c7 hy h7 => okO.some ⟨⟨y1.1,mem_int (by decide) hy,y1.2.2⟩,h7.up (by omega)⟩
 ·exact among_m h6 (by omega) (by simp) fun y c7 hy h7 => okO.some ⟨⟨mem_int (by decide) hy,y1.2⟩,h7.up (by omega)⟩
theorem drawReap_ok {code : List Int} (h : ∀ y ∈ code,0 ≤ y ∧ y ≤ 255) : ∃ r,zbQ code = some r ∧ okRg r := by
 have key : okO okRg (zbQ code) := by
  unfold zbQ zcY
  refine okO.bind ?_ fun r hr => okO.some hr
  exact okO.bind (region_ok (cur0 h) (by omega) (by omega)) fun r hr => okO.some hr.1
 exact key
theorem drawHear_ok {code : List Int} (h : ∀ y ∈ code,0 ≤ y ∧ y ≤ 255) : ∃ r w,zbu code = some (r,w) ∧ okRg r ∧ ok_I w.Version ∧ okT w.Tellings := by
 have key : okO (fun q => okRg q.1 ∧ ok_I q.2.Version ∧ okT q.2.Tellings) (zbu code) := by
  unfold zbu
  refine okO.bind (region_ok (cur0 h) (by omega) (by omega)) fun r ⟨r1,r2⟩ => ?_
  refine okO.bind (region_ok r2 (by omega) (by omega)) fun q ⟨q1,q2⟩ => ?_
  rw [spec_WordOf_eq' _ (okRg_ok q1)]
  refine okO.bind_some ?_
  have w := word_okT q1
  refine one_b q2 (by omega) (by omega) fun b c3 h3 => okO.ite (fun _ => ?_) (fun _ => okO.some ⟨r1,w⟩)
  refine pick_b h3 (by omega) (by omega) fun x c4 p4 _ q4 h4 => okO.some ⟨r1,?_,w.2⟩
  have := q4 (by omega)
  exact (⟨by omega,by omega⟩ : ok_I x)
 obtain ⟨⟨r,w⟩,e,h1⟩ := key
 exact ⟨r,w,e,h1⟩
end Go.TL
set_option maxRecDepth 4000
namespace Go.TL
theorem foldQ_evs : ∀ (r : List EventT) (s : StateT) (n : Nat),(foldQ r s n).2 = n + r.length → ∀ e ∈ r,evP e = true
 | [],s,n,_ => by simp
 | e :: r,s,n,h => by
  unfold foldQ at h
  cases ha : applyP s e with
  | none => rw [ha] at h; simp only [List.length_cons] at h; omega
  | some t =>
   rw [ha] at h
   have ih := foldQ_evs r t (n + 1) (by simp only [List.length_cons] at h; omega)
   intro y hy
   rcases List.mem_cons.1 hy with hy | hy
   ·rw [hy]
    unfold applyP at ha
    split at ha
    ·rename_i hm
     unfold mayP at hm
     simp only [Bool.and_eq_true] at hm
     exact hm.1.1.1
    ·cases ha
   ·exact ih y hy
theorem hist_evs {l : List EventT} (h : histP l = true) : ∀ e ∈ l,evP e = true := by
 obtain ⟨h1,h2,h3⟩ := hist_parts.1 h
 exact foldQ_evs l newS 0 (by unfold foldP at h2; omega)
theorem sigL_mem {l : List EventT} {z : ByteArray} : z ∈ sigL l ↔ ∃ e ∈ l,e.Kind = 2 ∧ e.Name = z := by
 unfold sigL
 simp only [List.mem_map,List.mem_filter,decide_eq_true_eq]
 exact ⟨fun ⟨e,⟨h1,h2⟩,h3⟩ => ⟨e,h1,h2,h3⟩,fun ⟨e,h1,h2,h3⟩ => ⟨e,⟨h1,h2⟩,h3⟩⟩
theorem sig_name {l : List EventT} (h : histP l = true) {z : ByteArray} (hz : z ∈ sigL l) : nameP z = true := by
 obtain ⟨e,he,_,hn⟩ := sigL_mem.1 hz
 have := hist_evs h e he
 unfold evP at this
 simp only [Bool.and_eq_true] at this
 rw [← hn]; exact this.2
theorem allS_mem {l : List BranchT} {z : ByteArray} : z ∈ allS l ↔ ∃ b ∈ l,z ∈ sigL b.Events := by
 unfold allS
 rw [List.mem_flatMap]
theorem lostA_asc (t : TellingsT) : ascS (lostA t) := (stps_ok (ownS t) (allS t.Branches) [] (by simp [ascS])).1
theorem lostA_mem {t : TellingsT} {z : ByteArray} : z ∈ lostA t ↔ z ∈ allS t.Branches ∧ z ∉ ownS t := by
 have := (stps_ok (ownS t) (allS t.Branches) [] (by simp [ascS])).2 z
 have e : z ∈ lostA t ↔ _ := this
 rw [e]
 have hh : hasS (ownS t) z = false ↔ z ∉ ownS t := by rw [← hasS_iff]; simp
 rw [hh]
 simp
theorem lost_name {t : TellingsT} (hg : goodT t = true) {z : ByteArray} (hz : z ∈ lostA t) : nameP z = true := by
 obtain ⟨b,hb,h⟩ := allS_mem.1 (lostA_mem.1 hz).1
 exact sig_name (tell_hist ((goodT_ris hg).1 b hb)) h
theorem okL_more {l : List ByteArray} {x : ByteArray} (h : okL false l = true) (hl : l.length < 30) (hx : nameP x = true) (hn : x ∉ l) : okL false (l ++ [x]) = true := by
 unfold okL at h ⊢
 simp only [Bool.and_eq_true,decide_eq_true_eq,allN_iff,Bool.not_false,Bool.true_or,Bool.and_true,Bool.not_eq_true',decide_eq_false_iff_not] at h ⊢
 refine ⟨by simp; omega,fun i hi => ?_⟩
 rw [List.length_append,List.length_singleton] at hi
 by_cases hlt : i < l.length
 ·obtain ⟨h1,h2⟩ := h.2 i hlt
  have e1 : nth (l ++ [x]) i = nth l i := by rw [nth_eq (by simp; omega),nth_eq hlt,List.getElem_append_left hlt]
  rw [e1]
  refine ⟨h1,fun k hk => ?_⟩
  have e2 : nth (l ++ [x]) k = nth l k := by rw [nth_eq (by simp; omega),nth_eq (show k < l.length by omega),List.getElem_append_left (by omega)]
  rw [e2]
  exact h2 k hk
 ·have hi' : i = l.length := by omega
  subst hi'
  have e1 : nth (l ++ [x]) l.length = x := by rw [nth_eq (by simp)]; simp
  rw [e1]
  refine ⟨hx,fun k hk => ?_⟩
  have e2 : nth (l ++ [x]) k = nth l k := by rw [nth_eq (by simp; omega),nth_eq (show k < l.length by omega),List.getElem_append_left (by omega)]
  rw [e2]
  exact fun e => hn (e ▸ nth_mem hk)
theorem code_same {r : RegionT} (hg : goodR r = true) {n z : ByteArray} (hn : n ∈ lostA r.Tellings) (hz : z ∈ lostA r.Tellings) (h : codeP r 2 n = 0) : codeP r 2 z = 0 := by
 obtain ⟨g1,g2,g3,g4⟩ := goodR_parts hg
 have hh := cur_hist g3
 have hsig : (foldP (curE r.Tellings)).1.Signals = ownS r.Tellings := hist_sig hh
 have zn := lost_name g3 hz
 have zo : z ∉ (foldP (curE r.Tellings)).1.Signals := by rw [hsig]; exact (lostA_mem.1 hz).2
 have no : n ∉ (foldP (curE r.Tellings)).1.Signals := by rw [hsig]; exact (lostA_mem.1 hn).2
 have hgs := foldP_good (curE r.Tellings)
 have hok := (goodS_num hgs).2.2.2.1
 have hlen := okL_len hok
 obtain ⟨z1,z2,z3,z4,⟨t,z5⟩,z6⟩ := code_zero h
 have hzs : hasS (foldP (curE r.Tellings)).1.Signals z = false := by
  cases hc : hasS (foldP (curE r.Tellings)).1.Signals z
  ·rfl
  ·exact absurd (hasS_iff.1 hc) zo
 have hns := z4 rfl
 have happ : (applyP (foldP (curE r.Tellings)).1 (nextE r 2 z)).isSome = true := by
  unfold applyP at z5 ⊢
  split at z5
  rotate_left
  ·cases z5
  rename_i hm
  have hm2 : mayP (foldP (curE r.Tellings)).1 (nextE r 2 z) = true := by
   unfold mayP evP at hm ⊢
   have a1 : (nextE r 2 n).Id = (nextE r 2 z).Id := rfl
   have a2 : (nextE r 2 n).Version = (nextE r 2 z).Version := rfl
   have a3 : (nextE r 2 n).Kind = (nextE r 2 z).Kind := rfl
   have a4 : nameP (nextE r 2 n).Name = nameP (nextE r 2 z).Name := by rw [show nameP (nextE r 2 n).Name = true from z2,show nameP (nextE r 2 z).Name = true from zn]
   rw [← a1,← a2,← a3,← a4]
   exact hm
  rw [if_pos hm2]
  have o1 : outP (foldP (curE r.Tellings)).1 (nextE r 2 n) = if (hasS (foldP (curE r.Tellings)).1.Signals n || decide ((foldP (curE r.Tellings)).1.Signals.length = 30)) = true then none else some ⟨(foldP (curE r.Tellings)).1.Status,(foldP (curE r.Tellings)).1.Next + 1,(foldP (curE r.Tellings)).1.Cancel,(foldP (curE r.Tellings)).1.Done,(foldP (curE r.Tellings)).1.Signals ++ [n],(foldP (curE r.Tellings)).1.Timers⟩ := rfl
  have o2 : outP (foldP (curE r.Tellings)).1 (nextE r 2 z) = if (hasS (foldP (curE r.Tellings)).1.Signals z || decide ((foldP (curE r.Tellings)).1.Signals.length = 30)) = true then none else some ⟨(foldP (curE r.Tellings)).1.Status,(foldP (curE r.Tellings)).1.Next + 1,(foldP (curE r.Tellings)).1.Cancel,(foldP (curE r.Tellings)).1.Done,(foldP (curE r.Tellings)).1.Signals ++ [z],(foldP (curE r.Tellings)).1.Timers⟩ := rfl
  rw [o1,hns] at z5
  rw [o2,hzs]
  by_cases h30 : (foldP (curE r.Tellings)).1.Signals.length = 30
  ·rw [if_pos (by simp [h30])] at z5; cases z5
  rw [if_neg (by simp [h30])] at z5 ⊢
  simp only [Option.bind_some] at z5 ⊢
  have k1 := okL_more hok (by omega) zn zo
  have k2 := okL_more hok (by omega) z2 no
  split at z5
  rotate_left
  ·cases z5
  rename_i hgn
  have : goodS ⟨(foldP (curE r.Tellings)).1.Status,(foldP (curE r.Tellings)).1.Next + 1,(foldP (curE r.Tellings)).1.Cancel,(foldP (curE r.Tellings)).1.Done,(foldP (curE r.Tellings)).1.Signals ++ [z],(foldP (curE r.Tellings)).1.Timers⟩ = true := by
   unfold goodS at hgn ⊢
   simp only [k1,k2] at hgn ⊢
   have e1 : decide ((foldP (curE r.Tellings)).1.Signals ++ [n] = []) = false := by simp
   have e2 : decide ((foldP (curE r.Tellings)).1.Signals ++ [z] = []) = false := by simp
   rw [e1] at hgn
   rw [e2]
   exact hgn
  rw [if_pos this]
  rfl
 unfold codeP
 rw [if_neg (by simp [zn]),if_neg (by rw [z3]; simp),if_neg (by simp [hzs]),if_neg (by rw [happ]; simp),if_neg z6]
theorem cur_best (l : List BranchT) : ∀ n i,i ≤ n → lastV (bev l i) < lastV (bev l (curI l n)) ∨ (lastV (bev l i) = lastV (bev l (curI l n)) ∧ (bev l i).length ≤ (bev l (curI l n)).length)
 | 0,i,h => by
  have : i = 0 := by omega
  subst this
  exact .inr ⟨rfl,Nat.le_refl _⟩
 | n + 1,i,h => by
  unfold curI
  have ih := cur_best l n
  by_cases hi : i = n + 1
  ·subst hi
   split
   ·exact .inr ⟨rfl,Nat.le_refl _⟩
   ·rename_i hb
    unfold betB at hb
    simp only [Bool.or_eq_true,Bool.and_eq_true,decide_eq_true_eq,not_or,not_and] at hb
    omega
  ·have := ih i (by omega)
   split
   ·rename_i hb
    unfold betB at hb
    simp only [Bool.or_eq_true,Bool.and_eq_true,decide_eq_true_eq] at hb
    omega
   ·exact this
theorem cur_max {t : TellingsT} {b : BranchT} (hb : b ∈ t.Branches) : lastV b.Events < lastV (curE t) ∨ (lastV b.Events = lastV (curE t) ∧ b.Events.length ≤ (curE t).length) := by
 obtain ⟨i,hi,e⟩ := List.mem_iff_getElem.1 hb
 have h0 : t.Branches.length ≠ 0 := by omega
 unfold curE
 rw [if_neg h0]
 have := cur_best t.Branches (t.Branches.length - 1) i (by omega)
 have e1 : bev t.Branches i = b.Events := by unfold bev; rw [nth_eq hi,e]
 rw [e1] at this
 exact this
theorem last_le {v : Int} {t : TellingsT} (ho : oldT v t = true) {b : BranchT} (hb : b ∈ t.Branches) (hn : b.Events ≠ []) : lastV b.Events ≤ v := by
 unfold oldT at ho
 have h1 := List.all_eq_true.1 ho b hb
 unfold oldE at h1
 have hl : 0 < b.Events.length := List.length_pos_iff.2 hn
 have := List.all_eq_true.1 h1 _ (nth_mem (show b.Events.length - 1 < b.Events.length by omega))
 simp at this
 unfold lastV
 omega
theorem last_snoc (l : List EventT) (e : EventT) : lastV (l ++ [e]) = e.Version := by
 unfold lastV
 rw [nth_eq (by simp)]
 simp
theorem cur_more {r : RegionT} {k : Int} {n : ByteArray} (hg : goodR r = true) (h : codeP r k n = 0) : curE (moreR r k n).Tellings = curE r.Tellings ++ [nextE r k n] := by
 obtain ⟨g1,g2,g3,g4⟩ := goodR_parts hg
 have ht := more_tell hg h
 have hgm := more_good hg h
 obtain ⟨m1,m2,m3,m4⟩ := goodR_parts hgm
 have hris := goodT_ris g3
 have hcov : covs (addS r.Tellings.Branches (curE r.Tellings ++ [nextE r k n])) (curE r.Tellings ++ [nextE r k n]) := (add_covs (ris_allH hris) (tell_hist ht)).2 (.inr (List.prefix_refl _))
 have hmem : (⟨curE r.Tellings ++ [nextE r k n]⟩ : BranchT) ∈ (moreR r k n).Tellings.Branches := by
  obtain ⟨b,hb,hp⟩ := hcov
  rcases addS_mem hb with e | e
  ·exfalso
   have h0 : r.Tellings.Branches.length ≠ 0 := fun e0 => by rw [List.length_eq_zero_iff.1 e0] at e; simp at e
   have hc := cur_mem h0
   have := ris_apart hris hc e (List.IsPrefix.trans (List.prefix_append _ _) hp)
   have hl := hp.length_le
   rw [← this] at hl
   simp at hl
   omega
  ·rw [← e]; exact hb
 have h0 : (moreR r k n).Tellings.Branches.length ≠ 0 := fun e0 => by rw [List.length_eq_zero_iff.1 e0] at hmem; simp at hmem
 have hc := cur_mem h0
 have hbest := cur_max hmem
 have hv : lastV (curE r.Tellings ++ [nextE r k n]) = r.Version := last_snoc _ _
 simp only [hv] at hbest
 rcases addS_mem hc with e | e
 ·exfalso
  have hne : (⟨curE (moreR r k n).Tellings⟩ : BranchT).Events ≠ [] := by
   have := hris.1 _ e
   have hlen := (goodT_fit m3).1.2
   intro e0
   have := tell_hist this
   rcases hbest with hb | hb
   ·have e1 : curE (moreR r k n).Tellings = [] := e0
    obtain ⟨i,hi,e2⟩ := List.mem_iff_getElem.1 hc
    have := (hlen i hi).1
    unfold bev at this
    rw [nth_eq hi,e2] at this
    simp only [e1] at this
    simp at this
   ·have e1 : curE (moreR r k n).Tellings = [] := e0
    have := hb.2
    rw [e1] at this
    simp at this
  have h1 := last_le g4 e hne
  have h2 := cur_max e
  have h3 := last_old g4
  simp only at h1 h2
  have h4 : lastV (curE (moreR r k n).Tellings) = r.Version ∧ (curE r.Tellings).length + 1 ≤ (curE (moreR r k n).Tellings).length := by
   rcases hbest with hb | hb
   ·omega
   ·refine ⟨by omega,?_⟩
    have := hb.2
    simp at this
    omega
  rcases h3 with h3 | h3
  ·have h0 : r.Tellings.Branches.length ≠ 0 := fun e0 => by rw [List.length_eq_zero_iff.1 e0] at e; simp at e
   have := (goodT_fit g3).1.2 _ (show curI r.Tellings.Branches (r.Tellings.Branches.length - 1) < r.Tellings.Branches.length by have := curI_le r.Tellings.Branches (r.Tellings.Branches.length - 1); omega)
   unfold curE at h3
   rw [if_neg h0] at h3
   rw [h3] at this
   simp at this
  ·omega
 ·exact branch_ext.1 e
theorem own_more {r : RegionT} {n : ByteArray} (hg : goodR r = true) (h : codeP r 2 n = 0) : ownS (moreR r 2 n).Tellings = ownS r.Tellings ++ [n] := by
 unfold ownS
 rw [cur_more hg h,sigL_snoc]
 rfl
theorem sig_pre {a b : List EventT} (h : a <+: b) {z : ByteArray} (hz : z ∈ sigL a) : z ∈ sigL b := by
 obtain ⟨e,he,h1⟩ := sigL_mem.1 hz
 exact sigL_mem.2 ⟨e,h.subset he,h1⟩
theorem allS_covs {l : List BranchT} {z : ByteArray} : z ∈ allS l ↔ ∃ x,covs l x ∧ z ∈ sigL x := by
 rw [allS_mem]
 exact ⟨fun ⟨b,hb,h⟩ => ⟨b.Events,⟨b,hb,List.prefix_refl _⟩,h⟩,fun ⟨x,⟨b,hb,hp⟩,h⟩ => ⟨b,hb,sig_pre hp h⟩⟩
theorem lost_more {r : RegionT} {n : ByteArray} (hg : goodR r = true) (h : codeP r 2 n = 0) {z : ByteArray} : z ∈ lostA (moreR r 2 n).Tellings ↔ z ∈ lostA r.Tellings ∧ z ≠ n := by
 obtain ⟨g1,g2,g3,g4⟩ := goodR_parts hg
 have ht := more_tell hg h
 have hris := goodT_ris g3
 rw [lostA_mem,lostA_mem,own_more hg h]
 have ha : z ∈ allS (moreR r 2 n).Tellings.Branches ↔ z ∈ allS r.Tellings.Branches ∨ z ∈ ownS r.Tellings ∨ z = n := by
  rw [allS_covs,allS_covs]
  have hs : sigL (curE r.Tellings ++ [nextE r 2 n]) = ownS r.Tellings ++ [n] := by rw [sigL_snoc]; rfl
  constructor
  ·rintro ⟨x,hx,hz⟩
   rcases (add_covs (ris_allH hris) (tell_hist ht)).1 hx with hx | hx
   ·exact .inl ⟨x,hx,hz⟩
   ·have := sig_pre hx hz
    rw [hs,List.mem_append,List.mem_singleton] at this
    exact .inr this
  ·rintro (⟨x,hx,hz⟩ | hz)
   ·exact ⟨x,(add_covs (ris_allH hris) (tell_hist ht)).2 (.inl hx),hz⟩
   ·refine ⟨curE r.Tellings ++ [nextE r 2 n],(add_covs (ris_allH hris) (tell_hist ht)).2 (.inr (List.prefix_refl _)),?_⟩
    rw [hs,List.mem_append,List.mem_singleton]
    exact hz
 rw [ha,List.mem_append,List.mem_singleton]
 constructor
 ·rintro ⟨h1,h2⟩
  have h3 : z ∉ ownS r.Tellings := fun x => h2 (.inl x)
  have h4 : z ≠ n := fun x => h2 (.inr x)
  rcases h1 with h1 | h1 | h1
  ·exact ⟨⟨h1,h3⟩,h4⟩
  ·exact absurd h1 h3
  ·exact absurd h1 h4
 ·rintro ⟨⟨h1,h2⟩,h3⟩
  exact ⟨.inl h1,fun x => x.elim h2 h3⟩
theorem reap_stuck {q : RegionT} (hg : goodR q = true) {z0 : ByteArray} (h0 : z0 ∈ lostA q.Tellings) (hc : codeP q 2 z0 ≠ 0) : ∀ (l : List ByteArray) (k : Nat),(∀ z ∈ l,z ∈ lostA q.Tellings) → l.foldl reapS (q,k) = (q,k)
 | [],k,_ => rfl
 | n :: l,k,h => by
  have hn : codeP q 2 n ≠ 0 := fun e => hc (code_same hg (h n (by simp)) h0 e)
  have e : reapS (q,k) n = (q,k) := by unfold reapS; rw [if_neg hn]
  rw [List.foldl_cons,e]
  exact reap_stuck hg h0 hc l k fun z hz => h z (List.mem_cons_of_mem _ hz)
theorem reap_run : ∀ (l : List ByteArray) (q : RegionT) (k : Nat),goodR q = true → l.Nodup → (∀ z ∈ l,z ∈ lostA q.Tellings) →
  ∃ (j : Nat) (q' : RegionT),l.foldl reapS (q,k) = (q',k + j) ∧ j ≤ l.length ∧ goodR q' = true ∧ q'.Id = q.Id ∧ q'.Version = q.Version ∧ (∀ z,z ∈ lostA q'.Tellings ↔ z ∈ lostA q.Tellings ∧ z ∉ l.take j) ∧ (j < l.length → codeP q' 2 (nth l j) ≠ 0)
 | [],q,k,hg,_,_ => ⟨0,q,rfl,by simp,hg,rfl,rfl,fun z => by simp,fun h => by simp at h⟩
 | n :: l,q,k,hg,hd,h => by
  by_cases hc : codeP q 2 n = 0
  ·have e : reapS (q,k) n = (moreR q 2 n,k + 1) := by unfold reapS; rw [if_pos hc]
   obtain ⟨d1,d2⟩ := List.nodup_cons.1 hd
   obtain ⟨j,q',r1,r2,r3,r4,r5,r6,r7⟩ := reap_run l (moreR q 2 n) (k + 1) (more_good hg hc) d2 fun z hz => (lost_more hg hc).2 ⟨h z (List.mem_cons_of_mem _ hz),fun e => d1 (e ▸ hz)⟩
   refine ⟨j + 1,q',?_,by simp only [List.length_cons]; omega,r3,r4,r5,fun z => ?_,fun hj => ?_⟩
   ·rw [List.foldl_cons,e,r1]
    rw [show k + 1 + j = k + (j + 1) by omega]
   ·rw [r6,lost_more hg hc,List.take_succ_cons,List.mem_cons,not_or,and_assoc]
   ·have := r7 (by simp only [List.length_cons] at hj; omega)
    exact this
  ·refine ⟨0,q,?_,by simp,hg,rfl,rfl,fun z => by simp,fun _ => hc⟩
   exact reap_stuck hg (h n (by simp)) hc (n :: l) k h
theorem asc_nd {l : List ByteArray} (h : ascS l) : l.Nodup := h.imp fun {a b} hab e => by
 subst e
 have h0 : sLt a a = false := bL_irr _
 rw [h0] at hab
 cases hab
theorem reap_twice {r : RegionT} (hg : goodR r = true) (ha : actB r = true) : ∃ (j : Nat) (q : RegionT),reapD r = (q,(j : Int),true) ∧ goodR q = true ∧ actB q = true ∧ q.Version = r.Version ∧ j ≤ (lostA r.Tellings).length ∧ (lostA q.Tellings).length = (lostA r.Tellings).length - j ∧ (reapD q).2 = (0,true) := by
 obtain ⟨j,q,r1,r2,r3,r4,r5,r6,r7⟩ := reap_run (lostA r.Tellings) r 0 hg (asc_nd (lostA_asc _)) fun z hz => hz
 have haq : actB q = true := by unfold actB at ha ⊢; rw [r4,r5]; exact ha
 have hl : lostA q.Tellings = (lostA r.Tellings).drop j := by
  refine asc_ext (lt := sLt) (fun x => bL_irr _) (fun x y z h1 h2 => bL_trans _ _ _ h1 h2) (lostA_asc _) ((lostA_asc _).sublist (List.drop_sublist _ _)) fun z => ?_
  rw [r6]
  have hd := asc_nd (lostA_asc r.Tellings)
  have hs := List.take_append_drop j (lostA r.Tellings)
  constructor
  ·rintro ⟨h1,h2⟩
   rw [← hs,List.mem_append] at h1
   exact h1.resolve_left h2
  ·intro h1
   refine ⟨List.mem_of_mem_drop h1,fun h2 => ?_⟩
   rw [← hs,List.nodup_append] at hd
   exact hd.2.2 z h2 z h1 rfl
 refine ⟨j,q,?_,r3,haq,r5,r2,by rw [hl,List.length_drop],?_⟩
 ·unfold reapD reapP
  rw [hg,ha,if_pos (by rfl),r1]
  simp
 ·unfold reapD reapP
  rw [r3,haq,if_pos (by rfl)]
  have e : (lostA q.Tellings).foldl reapS (q,0) = (q,0) := by
   by_cases hj : j < (lostA r.Tellings).length
   ·refine reap_stuck r3 (z0 := nth (lostA r.Tellings) j) ?_ (r7 hj) _ _ fun z hz => hz
    rw [hl,nth_eq hj]
    exact List.mem_drop_iff_getElem.2 ⟨0,by omega,by simp⟩
   ·have : lostA q.Tellings = [] := by rw [hl]; exact List.drop_eq_nil_of_le (by omega)
    rw [this]; rfl
  rw [e]
  rfl
end Go.TL
set_option maxRecDepth 4000
namespace Go.TL
theorem sameRegions_eq (r : RegionT) (h : midT r.Tellings.Branches) : zbP r r = some true := by
 unfold zbP
 rw [if_pos (by simp),if_pos (by simp),sameTellings_eq _ h]
 rfl
theorem hearD_mid (r : RegionT) (w : WordT) : midT (hearD r w).1.Tellings.Branches := by
 unfold hearD
 split
 ·rename_i hc
  simp only [Bool.and_eq_true,decide_eq_true_eq] at hc
  exact ris_mid (mrg_ris (goodT_ris (goodR_tell hc.1.1)) (goodT_ris (goodR_tell hc.1.2)).1) (by show (mrgS r.Tellings.Branches w.Tellings.Branches).length ≤ 1000; omega)
 ·exact ⟨by simp,fun i hi => by simp at hi⟩
theorem oldE_up {v u : Int} {l : List EventT} (h : oldE v l = true) (hv : v ≤ u) : oldE u l = true := by
 unfold oldE at h ⊢
 rw [List.all_eq_true] at h ⊢
 intro e he
 have := h e he
 simp at this ⊢
 omega
theorem hear_facts {r : RegionT} {w : WordT} (h : (hearD r w).2 = true) :
  goodR (hearD r w).1 = true ∧ hearD (hearD r w).1 w = ((hearD r w).1,true) ∧ r.Version ≤ (hearD r w).1.Version ∧ w.Version ≤ (hearD r w).1.Version ∧ goodR r = true ∧
  (∀ e,covs r.Tellings.Branches e → covs (hearD r w).1.Tellings.Branches e) := by
 have hx : goodR r = true ∧ goodR ⟨0,w.Version,w.Tellings⟩ = true ∧ (mrgS r.Tellings.Branches w.Tellings.Branches).length ≤ 12 := by
  unfold hearD at h
  split at h
  ·rename_i hc
   simp only [Bool.and_eq_true,decide_eq_true_eq] at hc
   exact ⟨hc.1.1,hc.1.2,hc.2⟩
  ·cases h
 obtain ⟨a1,a2,a3⟩ := hx
 have e : hearD r w = (⟨r.Id,max r.Version w.Version,⟨mrgS r.Tellings.Branches w.Tellings.Branches⟩⟩,true) := by
  unfold hearD
  rw [if_pos (by simp [a1,a2,a3])]
 have t1 := goodT_ris (goodR_tell a1)
 have t2 : risT w.Tellings.Branches := goodT_ris (t := w.Tellings) (goodR_tell a2)
 have hm := mrg_ris t1 t2.1
 obtain ⟨g1,g2,g3,g4⟩ := goodR_parts a1
 obtain ⟨k1,k2,k3,k4⟩ := goodR_parts a2
 have hgood : goodR ⟨r.Id,max r.Version w.Version,⟨mrgS r.Tellings.Branches w.Tellings.Branches⟩⟩ = true := by
  refine goodR_of g1 ?_ ?_ ?_
  ·unfold verP at *
   simp only [decide_eq_true_eq] at *
   omega
  ·show goodT ⟨_⟩ = true
   rw [ris_good hm]
   simpa using a3
  ·show oldT (max r.Version w.Version) ⟨_⟩ = true
   unfold oldT at *
   rw [List.all_eq_true] at *
   intro b hb
   rcases mrg_mem hb with hb | hb
   ·exact oldE_up (g4 b hb) (by omega)
   ·exact oldE_up (k4 b hb) (by show w.Version ≤ _; omega)
 rw [e]
 refine ⟨hgood,?_,by show r.Version ≤ max r.Version w.Version; omega,by show w.Version ≤ max r.Version w.Version; omega,a1,fun e he => (mrg_covs t1 t2.1).2 (.inl he)⟩
 have hag : mrgS (mrgS r.Tellings.Branches w.Tellings.Branches) w.Tellings.Branches = mrgS r.Tellings.Branches w.Tellings.Branches := mrg_again' t1 t2
 unfold hearD
 simp only [hag]
 rw [if_pos (by simp [hgood,a2,a3]),show max (max r.Version w.Version) w.Version = max r.Version w.Version by omega]
theorem heard_loop (c348 : RegionT × WordT) (c547 : RegionT × Bool) (hl : c348.1.Tellings.Branches.length ≤ 1000) (hok : ok_Tellings c547.1.Tellings)
  (hb : ∀ i,i < c348.1.Tellings.Branches.length → ok_LEvent (nth c348.1.Tellings.Branches i).Events) (h : ∀ i,i < c348.1.Tellings.Branches.length → hasH c547.1.Tellings (nth c348.1.Tellings.Branches i).Events = (true,true)) :
  loopF (zbq c348 c547) ⟨0⟩ = some (.inr ()) := by
 have key := all_loop (step := zbq c348 c547) (fun i => (⟨i⟩ : zeu)) c348.1.Tellings.Branches.length (fun _ => true) (.inr () : Unit ⊕ Unit) (.inl ()) (fun i hi hv => ?_) (fun _ => ?_)
 ·rw [key,if_pos (allN_iff.2 fun _ _ => rfl)]
 ·have e1 : wI ((i : Int) + 1) = ((i + 1 : Nat) : Int) := by rw [wI_id (by omega)]; omega
  unfold zbq
  simp only [Int.toNat_natCast,e1]
  rw [if_pos (by rw [decide_eq_true_eq]; omega),guard_pos (by omega),zgU _ _ hok (hb i hi),h i hi]
  rfl
 ·unfold zbq
  dsimp only
  rw [if_neg (by simp)]
theorem heard_holds (x0 x1 : List Int) (h0 : ∀ y ∈ x0,0 ≤ y ∧ y ≤ 255) (h1 : ∀ y ∈ x1,0 ≤ y ∧ y ≤ 255) : zfo x0 x1 = some true := by
 unfold zfo
 by_cases hs : (decide ((wI (((x0.length : Nat) : Int) + ((x1.length : Nat) : Int))) > 1048576)) = true
 ·exact if_pos hs
 refine (if_neg hs).trans ?_
 obtain ⟨r,w,e,hr,hwv,hwt⟩ := drawHear_ok h0
 have hrk := okRg_ok hr
 have hwk : ok_Word w := ⟨hwv,okT_ok hwt⟩
 have hxr := hear_okRg hr hwv hwt
 have hxk := okRg_ok hxr
 refine bind_eq_of e ?_
 refine bind_eq_of (zf8 _ _ hrk hwk) ?_
 refine bind_eq_of (zhz _ _ hrk hwk) ?_
 refine bind_eq_of (x := ⟨false⟩) ?_ ?_
 ·rw [sameRegions_eq _ (hearD_mid r w)]
  simp
 refine (if_neg (by simp)).trans ?_
 refine bind_eq_of (x := .inl ()) ?_ ?_
 ·cases hh : (hearD r w).2
  ·simp
  obtain ⟨f1,f2,f3,f4,f5,f6⟩ := hear_facts hh
  rw [if_pos rfl,zf8 _ _ hxk hwk,f2]
  simp only [Option.bind_some,Bool.not_true,Bool.false_eq_true,if_false]
  rw [sameRegions_eq _ (hearD_mid r w)]
  simp only [Option.bind_some,Bool.not_true,Bool.false_eq_true,if_false]
  rw [if_neg (by simpa using f3),if_neg (by simpa using f4),zbZ _ hxk,f1]
  simp only [Option.bind_some,Bool.not_true,Bool.false_eq_true,if_false]
  have hT := goodR_tell f5
  rw [heard_loop (r,w) (hearD r w) (by have := goodT_len hT; simp only; omega) hxk.2.2 (fun i hi => hrk.2.2.2 _ (nth_mem hi)) fun i hi => has_mem (goodR_tell f1) hT f6 hi]
  rfl
 ·obtain ⟨u,e2,hu⟩ := drawReap_ok h1
  have huk := okRg_ok hu
  dsimp only
  refine bind_eq_of e2 ?_
  refine bind_eq_of (zgm _ huk) ?_
  refine bind_eq_of (zhO _ huk) ?_
  refine bind_eq_of (x := ⟨false⟩) (by simp) ?_
  refine (if_neg (by simp)).trans ?_
  cases hg : goodR u && actB u
  ·have hD : reapD u = (⟨0,0,⟨[]⟩⟩,0,false) := by unfold reapD; rw [if_neg (by rw [hg]; simp)]
   rw [hD]
   rfl
  ·have hg' := hg
   simp only [Bool.and_eq_true] at hg'
   obtain ⟨j,q,d1,d2,d3,d4,d5,d6,d7⟩ := reap_twice hg'.1 hg'.2
   have hqk : ok_Region q := by
    have h1 := (rpAt_inv hg'.1 huk (lostA_ok huk.2.2) (lostA u.Tellings).length).2.1
    have e1 : rpAt u (lostA u.Tellings) (lostA u.Tellings).length = reapP u (lostA u.Tellings) := by unfold rpAt reapP; rw [List.take_length]
    rw [e1] at h1
    have e3 : (reapP u (lostA u.Tellings)).1 = q := by
     have := d1
     unfold reapD at this
     rw [if_pos hg] at this
     exact congrArg (·.1) this
    rw [e3] at h1
    exact h1
   have hlu := lostD_len u.Tellings
   have l1 : lostD u.Tellings = (lostA u.Tellings,true) := by unfold lostD; rw [if_pos (goodR_tell hg'.1)]
   have l2 : lostD q.Tellings = (lostA q.Tellings,true) := by unfold lostD; rw [if_pos (goodR_tell d2)]
   have w2 : wordD q = (⟨q.Version,q.Tellings⟩,true) := by unfold wordD; rw [if_pos d2]
   rw [l1] at hlu
   simp only at hlu
   rw [d1]
   simp only [Bool.not_true,Bool.false_eq_true,if_false]
   rw [zft _ huk.2.2,zft _ hqk.2.2,zhR _ hqk,zgm _ hqk,zbZ _ hqk,l1,l2,w2,d2]
   simp only [Option.bind_some,if_true,d7,beq_self_eq_true]
   have hw : wI (((lostA u.Tellings).length : Int) - (j : Int)) = (((lostA u.Tellings).length - j : Nat) : Int) := by rw [wI_id (by omega)]; omega
   rw [hw,d6]
   simp
end Go.TL

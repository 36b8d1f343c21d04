import Derived.Test.YteonagfnhdlfcaaGreatDoorG20PlR3M
import Derived.Test.YteonagfnhdlfcaaGreatDoorG25PpR3D
import Derived.Test.YteonagfnhdlfcaaGreatDoorG24PpR2D
import Derived.Test.YteonagfnhdlfcaaGreatDoorPpSg
set_option linter.unusedSimpArgs false
set_option linter.unusedVariables false
set_option maxRecDepth 4000
namespace Go.TL
section
variable {β γ τ : Type}
end
end Go.TL
set_option maxRecDepth 4000
namespace Go.TL
def ok_Region (x : RegionT) : Prop := ok_I x.Id ∧ ok_I x.Version ∧ ok_Tellings x.Tellings
def ok_Word (x : WordT) : Prop := ok_I x.Version ∧ ok_Tellings x.Tellings
end Go.TL
namespace Go.TL
def oldE (v : Int) (l : List EventT) : Bool := l.all fun e => !decide (e.Version > v)
def oldT (v : Int) (t : TellingsT) : Bool := t.Branches.all fun b => oldE v b.Events
def wordP (v : Int) (t : TellingsT) : Bool := verP v && goodT t && oldT v t
def goodR (r : RegionT) : Bool := decide (0 ≤ r.Id ∧ r.Id ≤ 9) && wordP r.Version r.Tellings
theorem zab (r : RegionT) (hr : ok_Region r) : zR r = some (goodR r) := by
 have ht : ok_Tellings r.Tellings := hr.2.2
 have h1 : r.Tellings.Branches.length ≤ 9223372036854775807 := ht.1
 unfold zR zbf goodR wordP
 simp only [zcK,zcr _ ht,Option.bind_some]
 have key := all_loop (step := za8 r) (fun i => (⟨i⟩ : za6)) r.Tellings.Branches.length (fun i => oldE r.Version (nth r.Tellings.Branches i).Events) (.inr () : Unit ⊕ Unit) (.inl ()) (fun i hi hv => ?_) (fun _ => ?_)
 ·rw [key,allN_nth r.Tellings.Branches fun b => oldE r.Version b.Events]
  unfold oldT verP
  cases decide (0 ≤ r.Id ∧ r.Id ≤ 9) <;> cases decide (0 ≤ r.Version ∧ r.Version ≤ 1000000) <;> cases goodT r.Tellings <;> cases (r.Tellings.Branches.all fun b => oldE r.Version b.Events) <;> simp
 ·have h2 : ok_LEvent (nth r.Tellings.Branches i).Events := ht.2 _ (nth_mem hi)
  have h3 := h2.1
  unfold za8
  dsimp only
  rw [if_pos (by rw [decide_eq_true_eq]; omega),guard_pos (by omega)]
  have e1 : wI ((i : Int) + 1) = ((i + 1 : Nat) : Int) := by rw [wI_id (by omega)]; omega
  rw [e1]
  have key2 := all_loop (step := za7 r (⟨(i : Int)⟩ : za6)) (fun k => (⟨k⟩ : zdh)) (nth r.Tellings.Branches i).Events.length (fun k => !decide ((nth (nth r.Tellings.Branches i).Events k).Version > r.Version)) (.inr () : Unit ⊕ Unit) (.inl ()) (fun k hk _ => ?_) (fun _ => ?_)
  ·rw [key2,allN_nth (nth r.Tellings.Branches i).Events fun e => !decide (e.Version > r.Version)]
   unfold oldE
   split <;> rfl
  ·unfold za7
   simp only [Int.toNat_natCast]
   have e2 : wI ((k : Int) + 1) = ((k + 1 : Nat) : Int) := by rw [wI_id (by omega)]; omega
   rw [if_pos (by rw [decide_eq_true_eq]; omega),guard_pos (by omega),e2]
   cases decide ((nth (nth r.Tellings.Branches i).Events k).Version > r.Version) <;> rfl
  ·unfold za7
   simp only [Int.toNat_natCast]
   rw [if_neg (by rw [decide_eq_true_eq]; omega)]
 ·unfold za8
  dsimp only
  rw [if_neg (by rw [decide_eq_true_eq]; omega)]
theorem zh7 (l : List EventT) (v : Int) (hl : l.length ≤ 9223372036854775807) : zi l v = some (!oldE v l) := by
 unfold zi zA
 have key := find_loop (step := zc l v) (fun i => (⟨i⟩ : zt)) l.length (fun i => decide ((nth l i).Version > v))
  (fun i => (.inl ⟨i⟩ : zai ⊕ Unit)) (.inr ()) (fun i hi hv => ?_) ?_
 ·rw [key]
  have e := findN_any l fun e => decide (e.Version > v)
  have e2 : (!oldE v l) = (l.any fun e => decide (e.Version > v)) := by
   unfold oldE
   rw [Bool.eq_iff_iff]; simp
  rw [e2,← e]
  cases findN (fun i => decide ((nth l i).Version > v)) l.length with
  | none => rfl
  | some i => simp
 ·unfold zc zcU
  dsimp only
  have e1 : wI ((i : Int) + 1) = ((i + 1 : Nat) : Int) := by rw [wI_id (by omega)]; omega
  rw [if_pos (by rw [decide_eq_true_eq]; omega),guard_pos (by omega),e1]
  simp only [Option.bind_some,Int.toNat_natCast]
  cases decide ((nth l i).Version > v) <;> rfl
 ·unfold zc
  dsimp only
  rw [if_neg (by rw [decide_eq_true_eq]; omega)]
theorem zh3 (t : TellingsT) (v : Int) (ht : ok_Tellings t) : zj t.Branches v = some (!oldT v t) := by
 have h1 : t.Branches.length ≤ 9223372036854775807 := ht.1
 unfold zj zG
 have key := find_loop (step := ze t.Branches v) (fun i => (⟨i⟩ : zx)) t.Branches.length (fun i => !oldE v (nth t.Branches i).Events)
  (fun i => (.inl ⟨i⟩ : zap ⊕ Unit)) (.inr ()) (fun i hi hv => ?_) ?_
 ·rw [key]
  have e := findN_any t.Branches fun b => !oldE v b.Events
  have e2 : (!oldT v t) = (t.Branches.any fun b => !oldE v b.Events) := by
   unfold oldT
   rw [Bool.eq_iff_iff]; simp
  rw [e2,← e]
  cases findN (fun i => !oldE v (nth t.Branches i).Events) t.Branches.length with
  | none => rfl
  | some i => simp
 ·unfold ze zd4
  dsimp only
  have e1 : wI ((i : Int) + 1) = ((i + 1 : Nat) : Int) := by rw [wI_id (by omega)]; omega
  rw [if_pos (by rw [decide_eq_true_eq]; omega),guard_pos (by omega),e1,Int.toNat_natCast,zh7 _ _ (ht.2 _ (nth_mem hi)).1]
  simp only [Option.bind_some]
  cases oldE v (nth t.Branches i).Events <;> rfl
 ·unfold ze
  dsimp only
  rw [if_neg (by rw [decide_eq_true_eq]; omega)]
theorem zgp (v : Int) (t : TellingsT) (ht : ok_Tellings t) : zef v t = some (wordP v t) := by
 unfold zef zcy wordP verP
 simp only [zdl,zbm _ ht,zh3 _ _ ht,Option.bind_some]
 cases decide (0 ≤ v ∧ v ≤ 1000000) <;> cases goodT t <;> simp
theorem zbZ (r : RegionT) (hr : ok_Region r) : zao r = some (goodR r) := by
 unfold zao ze5 goodR
 simp only [zdl,zgp _ _ hr.2.2,Option.bind_some]
 cases decide (0 ≤ r.Id ∧ r.Id ≤ 9) <;> simp
theorem goodR_zero (v : Int) (t : TellingsT) : goodR ⟨0,v,t⟩ = wordP v t := by
 unfold goodR
 simp
theorem evs_same {a b : List EventT} (ha : histP a = true) (hb : histP b = true) : (cmpL a b).1 = 0 ↔ a = b := by
 unfold cmpL
 cases hf : firstD a b with
 | some i =>
  obtain ⟨h1,h2,h3⟩ := findN_lt hf
  simp only [ne_eq,decide_not,Bool.not_eq_true',decide_eq_false_iff_not] at h2
  simp only
  constructor
  ·intro h; exact absurd h h2
  ·intro h; subst h; exact absurd ((evC_zero _ _).2 ⟨rfl,rfl,rfl⟩) h2
 | none =>
  have h1 := findN_no hf
  simp only
  constructor
  ·intro h
   have hl : a.length = b.length := by
    split at h
    ·simp at h
    ·split at h
     ·simp at h
     ·omega
   refine list_ext hl fun j hj => ?_
   have := h1 j (by omega)
   simp only [ne_eq,decide_not,Bool.not_eq_false',decide_eq_true_eq] at this
   exact (hist_same ha hb hj (by omega)).2 this
  ·intro h; subst h; simp
theorem branch_ext {x y : BranchT} : x = y ↔ x.Events = y.Events := by
 cases x; cases y; simp
theorem goodR_tell {r : RegionT} (h : goodR r = true) : goodT r.Tellings = true := by
 unfold goodR wordP at h
 simp only [Bool.and_eq_true] at h
 exact h.2.1.2
end Go.TL
set_option maxRecDepth 4000
namespace Go.TL
def smallT (t : TellingsT) : Prop := t.Branches.length ≤ 12 ∧ ∀ i,i < t.Branches.length → (nth t.Branches i).Events.length ≤ 60
theorem goodT_small {t : TellingsT} (h : goodT t = true) : smallT t := ⟨goodT_len h,fun i hi => hist_len (tell_hist (goodT_tell h hi))⟩
theorem take_snoc {α : Type} [Inhabited α] {l : List α} {i : Nat} (h : i < l.length) : l.take i ++ [nth l i] = l.take (i + 1) := by
 rw [nth_eq h]; simp
theorem zgq (t : TellingsT) (h : smallT t) : zP t = some t := by
 unfold zP
 have key : ∀ (m i : Nat),i + m = t.Branches.length → loopF (zz t) ⟨(i : Int),t.Branches.take i⟩ = some ⟨t.Branches⟩ := by
  intro m
  induction m with
  | zero =>
   intro i hi
   have e : i = t.Branches.length := by omega
   apply loop_out
   unfold zz
   dsimp only
   rw [if_neg (by simp; omega),e,List.take_length]
  | succ m ih =>
   intro i hi
   have hl := h.1
   have hs : zz t ⟨(i : Int),t.Branches.take i⟩ = some (.inl ⟨((i + 1 : Nat) : Int),t.Branches.take (i + 1)⟩) := by
    have he := h.2 i (by omega)
    have ht : (t.Branches.take i).length = i := by rw [List.length_take]; omega
    have e1 : wI ((i : Int) + 1) = ((i + 1 : Nat) : Int) := by rw [wI_id (by omega)]; omega
    unfold zz zk
    dsimp only
    rw [if_pos (by rw [decide_eq_true_eq]; omega),guard_pos (by omega),Int.toNat_natCast,guard_pos (by omega)]
    simp only [Option.bind_some]
    rw [guard_pos (by rw [ht]; omega),e1]
    have e2 : (⟨(nth t.Branches i).Events⟩ : BranchT) = nth t.Branches i := rfl
    rw [e2,take_snoc (by omega)]
   rw [loop_on hs]
   exact ih (i + 1) (by omega)
 have := key t.Branches.length 0 (by omega)
 simp only [List.take_zero] at this
 have e0 : ((0 : Nat) : Int) = 0 := rfl
 rw [e0] at this
 rw [this]
 rfl
def wordD (r : RegionT) : WordT × Bool := if goodR r = true then (⟨r.Version,r.Tellings⟩,true) else (⟨0,⟨[]⟩⟩,false)
theorem zhR (r : RegionT) (hr : ok_Region r) : ze2 r = some (wordD r) := by
 unfold ze2 wordD zdj
 rw [zbZ _ hr]
 simp only [Option.bind_some]
 cases hg : goodR r
 ·simp
 rw [if_neg (by simp),if_pos rfl,zgq _ (goodT_small (goodR_tell hg))]
 rfl
def leadD (r : RegionT) : RegionT × Bool := if goodR r = true then (if (nextP r.Version r.Id).2 = true then (⟨r.Id,(nextP r.Version r.Id).1,r.Tellings⟩,true) else (⟨0,0,⟨[]⟩⟩,false)) else (⟨0,0,⟨[]⟩⟩,false)
end Go.TL
namespace Go.TL
theorem firstD_sym (a b : List EventT) : firstD a b = firstD b a := by
 unfold firstD
 rw [Nat.min_comm]
 congr 1
 funext i
 congr 1
 apply propext
 rw [ne_eq,ne_eq,evC_zero,evC_zero]
 constructor <;> intro h e <;> exact h ⟨e.1.symm,e.2.1.symm,e.2.2.symm⟩
end Go.TL
set_option maxRecDepth 4000
namespace Go.TL
theorem evC_anti (a b : EventT) : evC b a = -evC a b := by
 unfold evC
 by_cases h1 : a.Version = b.Version
 ·by_cases h2 : a.Kind = b.Kind
  ·rcases sLt_tri a.Name b.Name with h | h | h
   ·simp [h1,h2,h,sLt_asym h]
   ·simp [h1,h2,h,sLt_irrefl]
   ·simp [h1,h2,h,sLt_asym h]
  ·simp only [h1,h2,Ne.symm h2,ne_eq,not_true_eq_false,if_false,not_false_eq_true,if_true]
   by_cases h : a.Kind < b.Kind
   ·rw [if_pos h,if_neg (by omega)]; rfl
   ·rw [if_neg h,if_pos (by omega)]
 ·simp only [h1,Ne.symm h1,ne_eq,not_false_eq_true,if_true]
  by_cases h : a.Version < b.Version
  ·rw [if_pos h,if_neg (by omega)]; rfl
  ·rw [if_neg h,if_pos (by omega)]
theorem cmpL_anti (a b : List EventT) : (cmpL b a).1 = -(cmpL a b).1 := by
 unfold cmpL
 rw [firstD_sym b a]
 cases firstD a b with
 | some i => simp only; exact evC_anti _ _
 | none =>
  simp only
  by_cases h : a.length < b.length
  ·simp [h,show ¬ b.length < a.length by omega]
  ·by_cases h' : b.length < a.length
   ·simp [h,h']
   ·simp [h,h']
def bev (l : List BranchT) (i : Nat) : List EventT := (nth l i).Events
def lastV (l : List EventT) : Int := (nth l (l.length - 1)).Version
def betB (a b : List EventT) : Bool := decide (lastV b < lastV a) || (decide (lastV a = lastV b) && decide (b.length ≤ a.length))
def curI (l : List BranchT) : Nat → Nat
 | 0 => 0
 | i + 1 => if betB (bev l (i + 1)) (bev l (curI l i)) = true then i + 1 else curI l i
theorem curI_le (l : List BranchT) : ∀ i,curI l i ≤ i
 | 0 => by simp [curI]
 | i + 1 => by
  have := curI_le l i
  unfold curI
  split <;> omega
def fitB (l : List BranchT) : Prop := l.length ≤ 12 ∧ ∀ i,i < l.length → 0 < (bev l i).length ∧ (bev l i).length ≤ 60
def cur0I (l : List BranchT) : Int := if l.length = 0 then -1 else ((curI l (l.length - 1) : Nat) : Int)
theorem zfz (l : List BranchT) (h : fitB l) : zb7 l = some (cur0I l) := by
 unfold zb7 cur0I
 by_cases h0 : l.length = 0
 ·rw [if_pos h0]
  have : loopF (zH l) ⟨(-1),0⟩ = some ⟨-1⟩ := by
   apply loop_out
   unfold zH
   dsimp only
   rw [if_neg (by rw [decide_eq_true_eq]; omega)]
  rw [this]; rfl
 rw [if_neg h0]
 obtain ⟨hl,he⟩ := h
 have key : ∀ (m i : Nat),i + 1 + m = l.length → loopF (zH l) ⟨((curI l i : Nat) : Int),((i + 1 : Nat) : Int)⟩ = some ⟨((curI l (l.length - 1) : Nat) : Int)⟩ := by
  intro m
  induction m with
  | zero =>
   intro i hi
   have e : i = l.length - 1 := by omega
   apply loop_out
   unfold zH
   dsimp only
   rw [if_neg (by simp; omega),e]
  | succ m ih =>
   intro i hi
   have hc := curI_le l i
   have hs : zH l ⟨((curI l i : Nat) : Int),((i + 1 : Nat) : Int)⟩ = some (.inl ⟨((curI l (i + 1) : Nat) : Int),((i + 2 : Nat) : Int)⟩) := by
    obtain ⟨a1,a2⟩ := he (i + 1) (by omega)
    obtain ⟨b1,b2⟩ := he (curI l i) (by omega)
    have e1 : wI (((i + 1 : Nat) : Int) + 1) = ((i + 2 : Nat) : Int) := by rw [wI_id (by omega)]; omega
    have e2 : curI l (i + 1) = if betB (bev l (i + 1)) (bev l (curI l i)) = true then i + 1 else curI l i := rfl
    have eA : wI ((((bev l (i + 1)).length : Nat) : Int) - 1) = (((bev l (i + 1)).length - 1 : Nat) : Int) := by rw [wI_id (by omega)]; omega
    have eB : wI ((((bev l (curI l i)).length : Nat) : Int) - 1) = (((bev l (curI l i)).length - 1 : Nat) : Int) := by rw [wI_id (by omega)]; omega
    have fA : (nth l (i + 1)).Events = bev l (i + 1) := rfl
    have fB : (nth l (curI l i)).Events = bev l (curI l i) := rfl
    unfold zH
    simp only [Int.toNat_natCast,fA,fB,eA,eB,e1]
    rw [if_pos (by rw [decide_eq_true_eq]; omega),guard_pos (by omega),if_neg (by simp),guard_pos (by omega),guard_pos (by omega),guard_pos (by omega),e2]
    have gA : (nth (bev l (i + 1)) ((bev l (i + 1)).length - 1)).Version = lastV (bev l (i + 1)) := rfl
    have gB : (nth (bev l (curI l i)) ((bev l (curI l i)).length - 1)).Version = lastV (bev l (curI l i)) := rfl
    rw [gA,gB]
    unfold betB
    by_cases c1 : lastV (bev l (curI l i)) < lastV (bev l (i + 1))
    ·rw [if_pos (decide_eq_true c1)]
     simp [c1]
    ·rw [if_neg (by simpa using c1)]
     by_cases c2 : lastV (bev l (i + 1)) = lastV (bev l (curI l i))
     ·rw [if_pos (by simpa using c2)]
      by_cases c3 : (bev l (curI l i)).length ≤ (bev l (i + 1)).length
      ·simp [c1,c2,c3]
      ·simp [c1,c2,c3]
     ·rw [if_neg (by simpa using c2)]
      simp [c1,c2]
   rw [loop_on hs]
   exact ih (i + 1) (by omega)
 have h1 : zH l ⟨(-1),0⟩ = some (.inl ⟨((curI l 0 : Nat) : Int),((0 + 1 : Nat) : Int)⟩) := by
  unfold zH
  dsimp only
  rw [if_pos (by simp; omega),guard_pos (by omega),if_pos (by simp)]
  rfl
 rw [loop_on h1,key (l.length - 1) 0 (by omega)]
 rfl
theorem zgc (l : List EventT) (h1 : 0 < l.length) (h2 : l.length ≤ 60) : zdS l = some (lastV l) := by
 have e : wI (((l.length : Nat) : Int) - 1) = ((l.length - 1 : Nat) : Int) := by rw [wI_id (by omega)]; omega
 unfold zdS lastV
 rw [e,guard_pos (by omega),Int.toNat_natCast]
def ordB (l : List BranchT) : Prop := ∀ i k,i < l.length → k < i → (cmpL (bev l k) (bev l i)).1 < 0
theorem cur_c1_eq (a b : List EventT) (ha : 0 < a.length ∧ a.length ≤ 60) (hb : 0 < b.length ∧ b.length ≤ 60) (hc : (cmpL b a).1 < 0) : ∃ c,zb8 ⟨a⟩ ⟨b⟩ = some c ∧ decide (c > 0) = betB a b := by
 refine ⟨if cmpI (lastV a) (lastV b) ≠ 0 then cmpI (lastV a) (lastV b) else if cmpI ((a.length : Nat) : Int) ((b.length : Nat) : Int) ≠ 0 then cmpI ((a.length : Nat) : Int) ((b.length : Nat) : Int) else (cmpL a b).1,?_,?_⟩
 ·unfold zb8
  simp only [zgc a ha.1 ha.2,zgc b hb.1 hb.2,zhB,zeh a b (by omega) (by omega),Option.bind_some,cmpOr3]
 ·have hp : 0 < (cmpL a b).1 := by rw [cmpL_anti b a]; omega
  unfold cmpI betB
  by_cases c1 : lastV a < lastV b
  ·have n1 : ¬ lastV b < lastV a := by omega
   have n2 : ¬ lastV a = lastV b := by omega
   simp [c1,n1,n2]
  ·by_cases c2 : lastV b < lastV a
   ·simp [c1,c2]
   ·have c3 : lastV a = lastV b := by omega
    by_cases d1 : a.length < b.length
    ·simp [c3,d1]
    ·by_cases d2 : b.length < a.length
     ·have d3 : b.length ≤ a.length := by omega
      have d4 : ¬ ((a.length : Nat) : Int) < ((b.length : Nat) : Int) := by omega
      simp [c3,d1,d2,d3]
     ·have d3 : a.length = b.length := by omega
      simp [c3,d3,hp]
theorem maxFunc_eq (l : List BranchT) (h : fitB l) (ho : ordB l) (h0 : 0 < l.length) : zr l = some ⟨bev l (curI l (l.length - 1))⟩ := by
 obtain ⟨hl,he⟩ := h
 unfold zr
 rw [if_neg (by simp; omega)]
 simp only [Option.bind_some]
 rw [guard_pos (by omega)]
 have key : ∀ (m i : Nat),i + 1 + m = l.length → loopF (za l) ⟨((i + 1 : Nat) : Int),bev l (curI l i)⟩ = some ⟨bev l (curI l (l.length - 1))⟩ := by
  intro m
  induction m with
  | zero =>
   intro i hi
   have e : i = l.length - 1 := by omega
   apply loop_out
   unfold za
   dsimp only
   rw [if_neg (by simp; omega),e]
  | succ m ih =>
   intro i hi
   have hc := curI_le l i
   have hs : za l ⟨((i + 1 : Nat) : Int),bev l (curI l i)⟩ = some (.inl ⟨((i + 2 : Nat) : Int),bev l (curI l (i + 1))⟩) := by
    have e1 : wI (((i + 1 : Nat) : Int) + 1) = ((i + 2 : Nat) : Int) := by rw [wI_id (by omega)]; omega
    have e2 : curI l (i + 1) = if betB (bev l (i + 1)) (bev l (curI l i)) = true then i + 1 else curI l i := rfl
    obtain ⟨c,hc1,hc2⟩ := cur_c1_eq (bev l (i + 1)) (bev l (curI l i)) (he (i + 1) (by omega)) (he (curI l i) (by omega)) (ho (i + 1) (curI l i) (by omega) (by omega))
    have hc1' : zb8 (nth l (i + 1)) ⟨bev l (curI l i)⟩ = some c := hc1
    unfold za
    simp only [Int.toNat_natCast,e1]
    rw [if_pos (by rw [decide_eq_true_eq]; omega),guard_pos (by omega),hc1',e2]
    simp only [Option.bind_some]
    rw [hc2]
    cases betB (bev l (i + 1)) (bev l (curI l i))
    ·rfl
    ·rw [if_pos rfl,if_pos rfl,guard_pos (by omega)]; rfl
   rw [loop_on hs]
   exact ih (i + 1) (by omega)
 have := key (l.length - 1) 0 (by omega)
 have e0 : ((0 + 1 : Nat) : Int) = 1 := rfl
 rw [e0] at this
 have e1 : bev l (curI l 0) = (nth l 0).Events := rfl
 rw [e1] at this
 rw [this]
 rfl
def curE (t : TellingsT) : List EventT := if t.Branches.length = 0 then [] else bev t.Branches (curI t.Branches (t.Branches.length - 1))
theorem goodT_fit {t : TellingsT} (h : goodT t = true) : fitB t.Branches ∧ ordB t.Branches := by
 refine ⟨⟨goodT_len h,fun i hi => ?_⟩,fun i k hi hk => ?_⟩
 ·have ht := goodT_tell h hi
  refine ⟨?_,hist_len (tell_hist ht)⟩
  unfold tellP at ht
  simp only [Bool.and_eq_true,decide_eq_true_eq] at ht
  exact ht.1
 ·unfold goodT at h
  simp only [Bool.and_eq_true,decide_eq_true_eq,allN_iff] at h
  exact ((h.2 i hi).2 k hk).1
theorem zes (t : TellingsT) (h : goodT t = true) : zbY t = some (curE t) := by
 obtain ⟨hf,ho⟩ := goodT_fit h
 unfold zbY curE
 by_cases h0 : t.Branches.length = 0
 ·rw [if_pos (by simp [h0]),if_pos h0]
 ·rw [if_neg (by simp; exact fun e => h0 (by rw [e]; rfl)),if_neg h0,maxFunc_eq _ hf ho (by omega)]
  rfl
theorem curE_len {t : TellingsT} (h : goodT t = true) : (curE t).length ≤ 60 := by
 obtain ⟨hf,ho⟩ := goodT_fit h
 unfold curE
 by_cases h0 : t.Branches.length = 0
 ·rw [if_pos h0]; simp
 ·rw [if_neg h0]
  have := curI_le t.Branches (t.Branches.length - 1)
  exact (hf.2 _ (by omega)).2
theorem curE_ok {t : TellingsT} (ht : ok_Tellings t) : ok_LEvent (curE t) := by
 unfold curE
 by_cases h0 : t.Branches.length = 0
 ·rw [if_pos h0]; exact ⟨by simp,by simp⟩
 ·rw [if_neg h0]
  have := curI_le t.Branches (t.Branches.length - 1)
  exact ht.2 _ (nth_mem (by omega))
end Go.TL
set_option maxRecDepth 4000
namespace Go.TL
set_option maxHeartbeats 1000000 in
theorem timer_loop9 (l : List ByteArray) (x : ByteArray) (hl : l.length ≤ 2000) : ∀ (r : List ByteArray) (i : Nat) (p : Bool) (c : List ByteArray),l.drop i = r → i ≤ l.length → c.length ≤ 2 * i →
  loopF (zS l x) ⟨p,(i : Int),c⟩ = some ⟨(tfold x r p c).1,(tfold x r p c).2⟩ := by
 intro r
 induction r with
 | nil =>
  intro i p c hd hi hc
  have hi' : i = l.length := by
   have := congrArg List.length hd
   rw [List.length_drop,List.length_nil] at this
   omega
  subst hi'
  exact loop_out (by unfold zS; rw [if_neg (by simp)]; rfl)
 | cons y r ih =>
  intro i p c hd hi hc
  have hlt : i < l.length := by
   have := congrArg List.length hd
   rw [List.length_drop,List.length_cons] at this
   omega
  have hy : nth l i = y := by
   rw [nth_eq hlt]
   have := List.drop_eq_getElem_cons hlt
   rw [hd] at this
   exact (List.cons.inj this).1.symm
  have hr : l.drop (i + 1) = r := by
   have := List.drop_eq_getElem_cons hlt
   rw [hd] at this
   exact (List.cons.inj this).2.symm
  have hstep : zS l x ⟨p,(i : Int),c⟩ = some (.inl (if y = x then ⟨p,((i + 1 : Nat) : Int),c⟩ else if (!p && sLt x y) = true then ⟨true,((i + 1 : Nat) : Int),c ++ [x] ++ [y]⟩ else ⟨p,((i + 1 : Nat) : Int),c ++ [y]⟩)) := by
   unfold zS
   have e1 : wI ((i : Int) + 1) = ((i + 1 : Nat) : Int) := by rw [wI_id (by omega)]; omega
   simp only [Int.toNat_natCast,hy,e1,sGt]
   rw [if_pos (by simp; omega),guard_pos (by omega),sEq]
   by_cases he : y = x
   ·rw [if_pos (by simp [he]),if_pos he]
   ·rw [if_neg (by simp [he]),if_neg he]
    have hg1 : (c.length + 1) * 16 ≤ 140737488355328 := by omega
    have hg2 : (c.length + 1 + 1) * 16 ≤ 140737488355328 := by omega
    cases p
    ·cases h : sLt x y
     ·simp [guard_pos hg1]
     ·simp [guard_pos hg1,guard_pos hg2]
    ·simp [guard_pos hg1]
  rw [loop_on hstep]
  unfold tfold
  by_cases he : y = x
  ·rw [if_pos he,if_pos he]; exact ih (i + 1) p c hr (by omega) (by omega)
  ·rw [if_neg he,if_neg he]
   split
   ·exact ih (i + 1) true _ hr (by omega) (by simp only [List.length_append,List.length_singleton]; omega)
   ·exact ih (i + 1) p _ hr (by omega) (by simp only [List.length_append,List.length_singleton]; omega)
theorem zhb (l : List ByteArray) (x : ByteArray) (hl : l.length ≤ 2000) : zbv l x = some (turnP l x) := by
 unfold zbv turnP
 obtain ⟨k,hk,hp⟩ := zc8 l x (by omega)
 rw [hk]
 simp only [Option.bind_some]
 rw [hp]
 have := timer_loop9 l x hl l 0 (hasS l x) [] rfl (by omega) (by simp)
 rw [show ((0 : Nat) : Int) = 0 from rfl] at this
 rw [this]
 simp only [Option.bind_some]
 have hlen := tfold_len x l [] (hasS l x)
 simp only [List.length_nil,Nat.zero_add] at hlen
 rw [guard_pos (by omega)]
 cases h : hasS l x
 ·have hm : x ∉ l := fun e => by rw [hasS_iff.2 e] at h; cases h
  have := tfold_false x l [] hm
  simp only [List.nil_append] at this
  simp only [Bool.false_eq_true,if_false]
  rw [← this]
  split <;> rfl
 ·rw [tfold_true]
  simp
theorem accL_loop {γ τ β : Type} {step : γ → Option (γ ⊕ τ)} (mk : Int → β → γ) (n : Nat) (f : Nat → β) (late : β → τ)
  (hs : ∀ i,i < n → step (mk i (f i)) = some (.inl (mk (i + 1 : Nat) (f (i + 1))))) (he : step (mk n (f n)) = some (.inr (late (f n)))) : loopF step (mk 0 (f 0)) = some (late (f n)) := by
 have key : ∀ (m i : Nat),i + m = n → loopF step (mk i (f i)) = some (late (f n)) := by
  intro m
  induction m with
  | zero =>
   intro i h
   have e : i = n := by omega
   subst e
   exact loop_out he
  | succ m ih =>
   intro i h
   rw [loop_on (hs i (by omega))]
   exact ih (i + 1) (by omega)
 exact key n 0 (by omega)
def sigL (l : List EventT) : List ByteArray := (l.filter fun e => decide (e.Kind = 2)).map (·.Name)
theorem sigL_len (l : List EventT) : (sigL l).length ≤ l.length := by
 unfold sigL
 rw [List.length_map]
 exact List.length_filter_le _ _
theorem sigL_snoc (l : List EventT) (e : EventT) : sigL (l ++ [e]) = if e.Kind = 2 then sigL l ++ [e.Name] else sigL l := by
 unfold sigL
 rw [List.filter_append,List.map_append]
 by_cases h : e.Kind = 2 <;> simp [h]
theorem sigL_cons (e : EventT) (l : List EventT) : sigL (e :: l) = (if e.Kind = 2 then [e.Name] else []) ++ sigL l := by
 unfold sigL
 by_cases h : e.Kind = 2 <;> simp [h]
theorem outP_sig {s t : StateT} {e : EventT} (h : outP s e = some t) : t.Signals = s.Signals ++ (if e.Kind = 2 then [e.Name] else []) := by
 unfold outP at h
 by_cases h1 : e.Kind = 1
 ·rw [if_pos h1] at h; cases h; simp [h1]
 rw [if_neg h1] at h
 by_cases h2 : e.Kind = 2
 ·rw [if_pos h2] at h
  split at h
  ·cases h
  ·cases h; simp [h2]
 rw [if_neg h2] at h
 rw [if_neg h2,List.append_nil]
 split at h
 ·cases h; rfl
 ·split at h
  ·cases h; rfl
  ·split at h
   ·split at h
    ·cases h
    ·cases h; rfl
   ·cases h; rfl
theorem applyP_sig {s t : StateT} {e : EventT} (h : applyP s e = some t) : t.Signals = s.Signals ++ (if e.Kind = 2 then [e.Name] else []) := by
 unfold applyP at h
 split at h
 ·cases ho : outP s e with
  | none => rw [ho] at h; cases h
  | some u =>
   rw [ho] at h
   simp only [Option.bind_some] at h
   split at h
   ·cases h; exact outP_sig ho
   ·cases h
 ·cases h
theorem foldQ_sig : ∀ (r : List EventT) (s : StateT) (n : Nat),(foldQ r s n).2 = n + r.length → (foldQ r s n).1.Signals = s.Signals ++ sigL r
 | [],s,n,_ => by simp [foldQ,sigL]
 | e :: r,s,n,h => by
  unfold foldQ at h ⊢
  cases ha : applyP s e with
  | none =>
   rw [ha] at h
   simp only [List.length_cons] at h
   omega
  | some t =>
   rw [ha] at h
   simp only [List.length_cons] at h ⊢
   rw [foldQ_sig r t (n + 1) (by omega),applyP_sig ha,sigL_cons,List.append_assoc]
theorem hist_sig {l : List EventT} (h : histP l = true) : (foldP l).1.Signals = sigL l := by
 unfold histP at h
 simp only [Bool.and_eq_true,decide_eq_true_eq] at h
 have := foldQ_sig l newS 0 (by have := h.1.2; unfold foldP at this; omega)
 exact this
theorem zgd (l : List EventT) (hl : l.length ≤ 60) : zdT l = some (sigL l) := by
 unfold zdT
 have key := accL_loop (step := zcb l) (fun i c => (⟨i,c⟩ : zep)) l.length (fun i => sigL (l.take i)) (fun c => (⟨c⟩ : zfL)) (fun i hi => ?_) ?_
 ·simp only [List.take_zero,List.take_length] at key
  have e0 : sigL [] = [] := rfl
  rw [e0] at key
  rw [key]; rfl
 ·have ht : (l.take i).length = i := by rw [List.length_take]; omega
  have hc := sigL_len (l.take i)
  have e1 : wI ((i : Int) + 1) = ((i + 1 : Nat) : Int) := by rw [wI_id (by omega)]; omega
  unfold zcb
  simp only [Int.toNat_natCast,e1,← take_snoc hi,sigL_snoc]
  rw [if_pos (by rw [decide_eq_true_eq]; omega),guard_pos (by omega)]
  by_cases h : (nth l i).Kind = 2
  ·rw [if_pos (by simpa using h),guard_pos (by omega),if_pos h]
  ·rw [if_neg (by simpa using h),if_neg h]
 ·unfold zcb
  dsimp only
  rw [if_neg (by simp)]
def stp (own out : List ByteArray) (n : ByteArray) : List ByteArray := if (hasS own n || hasS out n) = true then out else turnP out n
theorem turn_new {l : List ByteArray} {x : ByteArray} (h : hasS l x = false) : turnP l x = l.takeWhile (fun y => sLt y x) ++ x :: l.dropWhile (fun y => sLt y x) := by
 unfold turnP
 rw [h]
 simp
theorem stp_len (own out : List ByteArray) (n : ByteArray) : (stp own out n).length ≤ out.length + 1 := by
 unfold stp
 split
 ·omega
 ·rename_i h
  have h' : hasS out n = false := by
   cases h2 : hasS out n
   ·rfl
   ·rw [h2] at h; simp at h
  rw [turn_new h',List.length_append,List.length_cons]
  have := congrArg List.length (List.takeWhile_append_dropWhile (p := fun y => sLt y n) (l := out))
  rw [List.length_append] at this
  omega
theorem stps_len (own : List ByteArray) : ∀ (r out : List ByteArray),(r.foldl (stp own) out).length ≤ out.length + r.length
 | [],out => by simp
 | n :: r,out => by
  have h1 := stp_len own out n
  have h2 := stps_len own r (stp own out n)
  simp only [List.foldl_cons,List.length_cons]
  omega
theorem foldl_snoc {α β : Type} [Inhabited α] (f : β → α → β) (b : β) {l : List α} {i : Nat} (h : i < l.length) : (l.take (i + 1)).foldl f b = f ((l.take i).foldl f b) (nth l i) := by
 rw [← take_snoc h,List.foldl_append]
 rfl
theorem lost_in (own out : List ByteArray) (c c' : StateT × Int) (ho : c'.1.Signals = own) (h1 : own.length ≤ 60) (h2 : c.1.Signals.length ≤ 60) (h3 : out.length ≤ 1000) :
  loopF (zbl c c') ⟨0,out⟩ = some ⟨c.1.Signals.foldl (stp own) out⟩ := by
 have key := accL_loop (step := zbl c c') (fun i c => (⟨i,c⟩ : zeo)) c.1.Signals.length (fun i => (c.1.Signals.take i).foldl (stp own) out) (fun c => (⟨c⟩ : zfK)) (fun i hi => ?_) ?_
 ·simpa only [List.take_zero,List.take_length,List.foldl_nil] using key
 ·have hl := stps_len own (c.1.Signals.take i) out
  have ht : (c.1.Signals.take i).length = i := by rw [List.length_take]; omega
  have e1 : wI ((i : Int) + 1) = ((i + 1 : Nat) : Int) := by rw [wI_id (by omega)]; omega
  obtain ⟨k1,g1,g2⟩ := zc8 own (nth c.1.Signals i) (by omega)
  obtain ⟨k2,g3,g4⟩ := zc8 ((c.1.Signals.take i).foldl (stp own) out) (nth c.1.Signals i) (by omega)
  have n1 : decide (k1 < 0) = !hasS own (nth c.1.Signals i) := by rw [← g2]; by_cases h : k1 < 0 <;> simp [h]; omega
  have n2 : decide (k2 < 0) = !hasS ((c.1.Signals.take i).foldl (stp own) out) (nth c.1.Signals i) := by rw [← g4]; by_cases h : k2 < 0 <;> simp [h]; omega
  unfold zbl
  simp only [Int.toNat_natCast,e1,ho,foldl_snoc _ _ hi]
  rw [if_pos (by rw [decide_eq_true_eq]; omega),guard_pos (by omega),g1]
  simp only [Option.bind_some]
  rw [g3,zhb _ _ (by omega)]
  simp only [Option.bind_some,n1,n2]
  have e5 : stp own ((c.1.Signals.take i).foldl (stp own) out) (nth c.1.Signals i) = if (hasS own (nth c.1.Signals i) || hasS ((c.1.Signals.take i).foldl (stp own) out) (nth c.1.Signals i)) = true then (c.1.Signals.take i).foldl (stp own) out else turnP ((c.1.Signals.take i).foldl (stp own) out) (nth c.1.Signals i) := rfl
  rw [e5]
  cases hasS own (nth c.1.Signals i)
  ·cases hasS ((c.1.Signals.take i).foldl (stp own) out) (nth c.1.Signals i) <;> rfl
  ·rfl
 ·unfold zbl
  dsimp only
  rw [if_neg (by simp)]
def allS (l : List BranchT) : List ByteArray := l.flatMap fun b => sigL b.Events
theorem allS_snoc (l : List BranchT) (b : BranchT) : allS (l ++ [b]) = allS l ++ sigL b.Events := by unfold allS; simp
theorem allS_len {l : List BranchT} (h : ∀ b ∈ l,b.Events.length ≤ 60) : (allS l).length ≤ 60 * l.length := by
 unfold allS
 induction l with
 | nil => simp
 | cons b r ih =>
  have h1 := ih fun x hx => h x (by simp [hx])
  have h2 := h b (by simp)
  have h3 := sigL_len b.Events
  rw [List.flatMap_cons,List.length_append,List.length_cons]
  omega
def ownS (t : TellingsT) : List ByteArray := sigL (curE t)
def lostA (t : TellingsT) : List ByteArray := (allS t.Branches).foldl (stp (ownS t)) []
def lostB (t : TellingsT) : List ByteArray := compS (sortS ((allS t.Branches).filter fun n => !hasS (ownS t) n))
theorem good_hist {t : TellingsT} (h : goodT t = true) {i : Nat} (hi : i < t.Branches.length) : histP (nth t.Branches i).Events = true ∧ (nth t.Branches i).Events.length ≤ 60 := ⟨tell_hist (goodT_tell h hi),hist_len (tell_hist (goodT_tell h hi))⟩
theorem all_small {t : TellingsT} (h : goodT t = true) : ∀ b ∈ t.Branches,b.Events.length ≤ 60 := by
 intro b hb
 obtain ⟨i,hi,e⟩ := List.getElem_of_mem hb
 have := (good_hist h hi).2
 rw [nth_eq hi,e] at this
 exact this
theorem zhC (t : TellingsT) (ht : ok_Tellings t) (hg : goodT t = true) : zeA t.Branches = some (lostA t) := by
 obtain ⟨hf,ho⟩ := goodT_fit hg
 have h12 := goodT_len hg
 unfold zeA
 rw [zfz _ hf]
 simp only [Option.bind_some]
 unfold cur0I
 by_cases h0 : t.Branches.length = 0
 ·have e : t.Branches = [] := List.length_eq_zero_iff.1 h0
  rw [if_pos h0,if_pos (by simp)]
  unfold lostA allS
  rw [e]; rfl
 have hc := curI_le t.Branches (t.Branches.length - 1)
 have hlt : curI t.Branches (t.Branches.length - 1) < t.Branches.length := by omega
 have ec : curE t = (nth t.Branches (curI t.Branches (t.Branches.length - 1))).Events := by unfold curE; rw [if_neg h0]; rfl
 rw [if_neg h0,if_neg (by simp),guard_pos (by omega),Int.toNat_natCast,← ec,zeq _ (curE_ok ht)]
 simp only [Option.bind_some]
 have hcs : (foldP (curE t)).1.Signals = ownS t := by rw [ec,hist_sig (good_hist hg hlt).1,← ec]; rfl
 have hol : (ownS t).length ≤ 60 := Nat.le_trans (sigL_len _) (curE_len hg)
 have key := accL_loop (step := zca t.Branches ((foldP (curE t)).1,(((foldP (curE t)).2 : Nat) : Int))) (fun i c => (⟨i,c⟩ : zen)) t.Branches.length (fun i => (allS (t.Branches.take i)).foldl (stp (ownS t)) []) (fun c => (⟨c⟩ : zfJ)) (fun i hi => ?_) ?_
 ·simp only [List.take_zero,List.take_length] at key
  have e0 : (allS []).foldl (stp (ownS t)) [] = [] := rfl
  rw [e0] at key
  rw [key]; rfl
 ·obtain ⟨g1,g2⟩ := good_hist hg hi
  have hs := sigL_len (nth t.Branches i).Events
  have hal := allS_len (l := t.Branches.take i) fun b hb => all_small hg b (List.mem_of_mem_take hb)
  have ht' : (t.Branches.take i).length = i := by rw [List.length_take]; omega
  have hfl := stps_len (ownS t) (allS (t.Branches.take i)) []
  have e1 : wI ((i : Int) + 1) = ((i + 1 : Nat) : Int) := by rw [wI_id (by omega)]; omega
  simp only [List.length_nil,Nat.zero_add] at hfl
  unfold zca
  simp only [Int.toNat_natCast,e1,← take_snoc hi,allS_snoc,List.foldl_append]
  rw [if_pos (by rw [decide_eq_true_eq]; omega),guard_pos (by omega),zeq _ (ht.2 _ (nth_mem hi))]
  simp only [Option.bind_some]
  rw [lost_in (ownS t) _ _ _ hcs hol (by rw [hist_sig g1]; omega) (by omega)]
  simp only [Option.bind_some]
  rw [hist_sig g1]
 ·unfold zca
  dsimp only
  rw [if_neg (by simp)]
theorem filt_snoc (own l : List ByteArray) (n : ByteArray) : (l ++ [n]).filter (fun n => !hasS own n) = if hasS own n = true then l.filter (fun n => !hasS own n) else l.filter (fun n => !hasS own n) ++ [n] := by
 rw [List.filter_append]
 cases h : hasS own n <;> simp [h]
theorem lost_impl_in (own out l : List ByteArray) (h1 : own.length ≤ 60) (h2 : l.length ≤ 60) (h3 : out.length ≤ 1000) :
  loopF (zal l own) ⟨0,out⟩ = some ⟨out ++ l.filter fun n => !hasS own n⟩ := by
 have key := accL_loop (step := zal l own) (fun i c => (⟨i,c⟩ : zcW)) l.length (fun i => out ++ (l.take i).filter fun n => !hasS own n) (fun c => (⟨c⟩ : zff)) (fun i hi => ?_) ?_
 ·simpa only [List.take_zero,List.take_length,List.filter_nil,List.append_nil] using key
 ·have hl := List.length_filter_le (fun n => !hasS own n) (l.take i)
  have ht : (l.take i).length = i := by rw [List.length_take]; omega
  have e1 : wI ((i : Int) + 1) = ((i + 1 : Nat) : Int) := by rw [wI_id (by omega)]; omega
  unfold zal
  simp only [Int.toNat_natCast,e1,← take_snoc hi,filt_snoc]
  rw [if_pos (by rw [decide_eq_true_eq]; omega),guard_pos (by omega),containsS_eq _ _ (by omega)]
  simp only [Option.bind_some]
  cases hasS own (nth l i)
  ·rw [if_pos (by rfl),guard_pos (by rw [List.length_append]; omega),if_neg (by simp),List.append_assoc]
  ·rw [if_neg (by simp),if_pos rfl]
 ·unfold zal
  dsimp only
  rw [if_neg (by simp)]
theorem zfs (t : TellingsT) (hg : goodT t = true) : zbJ t = some (lostB t) := by
 have h12 := goodT_len hg
 have hol : (ownS t).length ≤ 60 := Nat.le_trans (sigL_len _) (curE_len hg)
 unfold zbJ
 rw [zes t hg]
 simp only [Option.bind_some]
 rw [zgd _ (curE_len hg)]
 simp only [Option.bind_some]
 have key := accL_loop (step := zaR t (sigL (curE t))) (fun i c => (⟨i,c⟩ : zcV)) t.Branches.length (fun i => (allS (t.Branches.take i)).filter fun n => !hasS (ownS t) n) (fun c => (⟨c⟩ : zfe)) (fun i hi => ?_) ?_
 ·simp only [List.take_zero,List.take_length] at key
  have e0 : ((allS []).filter fun n => !hasS (ownS t) n) = [] := rfl
  rw [e0] at key
  rw [key]
  have hal := allS_len (l := t.Branches) (all_small hg)
  have hl := List.length_filter_le (fun n => !hasS (ownS t) n) (allS t.Branches)
  simp only [Option.bind_some]
  unfold zcq
  rw [guard_pos (by omega)]
  simp only [Option.bind_some]
  rw [guard_pos (sortS_len _)]
  unfold zbA
  rw [guard_pos (by rw [sortS_len]; omega)]
  rfl
 ·obtain ⟨g1,g2⟩ := good_hist hg hi
  have hs := sigL_len (nth t.Branches i).Events
  have hal := allS_len (l := t.Branches.take i) fun b hb => all_small hg b (List.mem_of_mem_take hb)
  have ht' : (t.Branches.take i).length = i := by rw [List.length_take]; omega
  have hl := List.length_filter_le (fun n => !hasS (ownS t) n) (allS (t.Branches.take i))
  have e1 : wI ((i : Int) + 1) = ((i + 1 : Nat) : Int) := by rw [wI_id (by omega)]; omega
  unfold zaR
  simp only [Int.toNat_natCast,e1,← take_snoc hi,allS_snoc,List.filter_append]
  rw [if_pos (by rw [decide_eq_true_eq]; omega),guard_pos (by omega),zgd _ g2]
  simp only [Option.bind_some]
  have := lost_impl_in (ownS t) ((allS (t.Branches.take i)).filter fun n => !hasS (ownS t) n) (sigL (nth t.Branches i).Events) hol (by omega) (by omega)
  unfold ownS at this ⊢
  rw [this]
  rfl
 ·unfold zaR
  dsimp only
  rw [if_neg (by simp)]
theorem asc_ext {α : Type} {lt : α → α → Bool} (hi : ∀ x,lt x x = false) (ht : ∀ x y z,lt x y = true → lt y z = true → lt x z = true) : ∀ {a b : List α},(a.Pairwise fun x y => lt x y = true) → (b.Pairwise fun x y => lt x y = true) → (∀ x,x ∈ a ↔ x ∈ b) → a = b
 | [],b,_,_,h => by
  cases b with
  | nil => rfl
  | cons y q => have := (h y).2 (by simp); simp at this
 | x :: r,[],_,_,h => by have := (h x).1 (by simp); simp at this
 | x :: r,y :: q,ha,hb,h => by
  rw [List.pairwise_cons] at ha hb
  have e : x = y := by
   rcases List.mem_cons.1 ((h x).1 (by simp)) with h1 | h1
   ·exact h1
   ·rcases List.mem_cons.1 ((h y).2 (by simp)) with h2 | h2
    ·exact h2.symm
    ·have := ht x y x (ha.1 y h2) (hb.1 x h1)
     rw [hi] at this; cases this
  subst e
  have hx : ∀ z,lt x z = true → z ≠ x := fun z hz e => by rw [e,hi] at hz; cases hz
  rw [asc_ext hi ht ha.2 hb.2 fun z => ?_]
  constructor
  ·intro hz
   rcases List.mem_cons.1 ((h z).1 (List.mem_cons_of_mem _ hz)) with h1 | h1
   ·exact absurd h1 (hx z (ha.1 z hz))
   ·exact h1
  ·intro hz
   rcases List.mem_cons.1 ((h z).2 (List.mem_cons_of_mem _ hz)) with h1 | h1
   ·exact absurd h1 (hx z (hb.1 z hz))
   ·exact h1
abbrev ascS (l : List ByteArray) : Prop := l.Pairwise fun x y => sLt x y = true
theorem turn_asc {l : List ByteArray} {x : ByteArray} (h : ascS l) (hx : x ∉ l) : ascS (l.takeWhile (fun y => sLt y x) ++ x :: l.dropWhile (fun y => sLt y x)) := by
 induction l with
 | nil => simp [ascS]
 | cons y r ih =>
  rw [ascS,List.pairwise_cons] at h
  have hne : y ≠ x := fun e => hx (by simp [e])
  have hr : x ∉ r := fun e => hx (by simp [e])
  cases hlt : sLt y x
  ·have hxy : sLt x y = true := by
    rcases sLt_tri x y with h1 | h1 | h1
    ·exact h1
    ·exact absurd h1.symm hne
    ·rw [hlt] at h1; cases h1
   simp only [List.takeWhile_cons,List.dropWhile_cons,hlt,Bool.false_eq_true,if_false,List.nil_append]
   rw [ascS,List.pairwise_cons,List.pairwise_cons]
   exact ⟨fun z hz => by
    rcases List.mem_cons.1 hz with e | e
    ·rw [e]; exact hxy
    ·exact sLt_trans hxy (h.1 z e),h⟩
  ·simp only [List.takeWhile_cons,List.dropWhile_cons,hlt,if_true,List.cons_append]
   rw [ascS,List.pairwise_cons]
   refine ⟨fun z hz => ?_,ih h.2 hr⟩
   rcases List.mem_append.1 hz with e | e
   ·exact h.1 z (List.takeWhile_subset _ e)
   ·rcases List.mem_cons.1 e with e | e
    ·rw [e]; exact hlt
    ·exact h.1 z (List.dropWhile_subset _ e)
theorem turn_mem {l : List ByteArray} {x z : ByteArray} : z ∈ l.takeWhile (fun y => sLt y x) ++ x :: l.dropWhile (fun y => sLt y x) ↔ z = x ∨ z ∈ l := by
 have := List.takeWhile_append_dropWhile (p := fun y => sLt y x) (l := l)
 constructor
 ·intro h
  rcases List.mem_append.1 h with e | e
  ·exact .inr (List.takeWhile_subset _ e)
  ·rcases List.mem_cons.1 e with e | e
   ·exact .inl e
   ·exact .inr (List.dropWhile_subset _ e)
 ·intro h
  rcases h with e | e
  ·simp [e]
  ·rw [← this] at e
   rcases List.mem_append.1 e with e | e
   ·exact List.mem_append.2 (.inl e)
   ·exact List.mem_append.2 (.inr (List.mem_cons_of_mem _ e))
theorem stp_ok (own out : List ByteArray) (n : ByteArray) (h : ascS out) : ascS (stp own out n) ∧ ∀ z,z ∈ stp own out n ↔ z ∈ out ∨ (z = n ∧ hasS own n = false) := by
 unfold stp
 cases ho : hasS own n
 ·cases hn : hasS out n
  ·have hx : n ∉ out := fun e => by rw [hasS_iff.2 e] at hn; cases hn
   rw [if_neg (by simp),turn_new hn]
   refine ⟨turn_asc h hx,fun z => ?_⟩
   rw [turn_mem]
   simp [or_comm]
  ·have hx : n ∈ out := hasS_iff.1 hn
   rw [if_pos (by simp)]
   refine ⟨h,fun z => ⟨.inl,fun e => ?_⟩⟩
   rcases e with e | e
   ·exact e
   ·rw [e.1]; exact hx
 ·rw [if_pos (by simp)]
  exact ⟨h,fun z => by simp⟩
theorem stps_ok (own : List ByteArray) : ∀ (r out : List ByteArray),ascS out → ascS (r.foldl (stp own) out) ∧ ∀ z,z ∈ r.foldl (stp own) out ↔ z ∈ out ∨ (z ∈ r ∧ hasS own z = false)
 | [],out,h => ⟨h,fun z => by simp⟩
 | n :: r,out,h => by
  obtain ⟨h1,h2⟩ := stp_ok own out n h
  obtain ⟨h3,h4⟩ := stps_ok own r (stp own out n) h1
  refine ⟨h3,fun z => ?_⟩
  rw [List.foldl_cons,h4,h2,List.mem_cons]
  constructor
  ·rintro ((h | ⟨rfl,h⟩) | ⟨h,h'⟩)
   ·exact .inl h
   ·exact .inr ⟨.inl rfl,h⟩
   ·exact .inr ⟨.inr h,h'⟩
  ·rintro (h | ⟨rfl | h,h'⟩)
   ·exact .inl (.inl h)
   ·exact .inl (.inr ⟨rfl,h'⟩)
   ·exact .inr ⟨h,h'⟩
theorem bLess_lt : ∀ a b : List UInt8,bLess a b = true ↔ a < b
 | _,[] => by simp [bLess]
 | [],_ :: _ => by simp [bLess]
 | x :: r,y :: q => by
  rw [List.cons_lt_cons_iff,← bLess_lt r q]
  simp [bLess]
theorem le_bLess : (fun x y : List UInt8 => decide (x ≤ y)) = fun x y => !bLess y x := by
 funext x y
 have : x ≤ y ↔ ¬ y < x := List.not_lt.symm
 rw [← bLess_lt] at this
 cases h : bLess y x
 ·rw [h] at this; simpa using this
 ·rw [h] at this; simpa using this
theorem compact_mem {zs : List (List UInt8)} {x : List UInt8} : x ∈ Go.Lib.compact zs ↔ x ∈ zs := by
 unfold Go.Lib.compact Go.Lib.compactUpTo
 rw [List.mem_map]
 constructor
 ·rintro ⟨j,hj,rfl⟩
  have := (List.mem_filter.1 hj).1
  rw [List.mem_range] at this
  simp [this]
 ·intro hx
  obtain ⟨j,hj,rfl⟩ := List.getElem_of_mem hx
  have key : ∀ j (hj : j < zs.length),∃ a,a ∈ (List.range zs.length).filter (Go.Lib.keeps zs.toArray) ∧ zs.toArray[a]! = zs[j] := by
   intro j
   induction j with
   | zero =>
    intro hj
    exact ⟨0,List.mem_filter.2 ⟨List.mem_range.2 hj,Go.Lib.keeps_lt_one _ 0 (by omega)⟩,by simp [hj]⟩
   | succ j ih =>
    intro hj
    cases hk : Go.Lib.keeps zs.toArray (j + 1)
    ·obtain ⟨a,h1,h2⟩ := ih (by omega)
     refine ⟨a,h1,?_⟩
     rw [h2]
     unfold Go.Lib.keeps at hk
     simp at hk
     have hj' : j < zs.length := by omega
     simp [hj,hj'] at hk
     exact hk.symm
    ·exact ⟨j + 1,List.mem_filter.2 ⟨List.mem_range.2 hj,hk⟩,by simp [hj]⟩
  exact key j hj
theorem compact_asc {zs : List (List UInt8)} (h : zs.Pairwise fun x y => (!bLess y x) = true) : (Go.Lib.compact zs).Pairwise fun x y => bLess x y = true := by
 have hle : ∀ i j,i < j → j < zs.length → bLess zs.toArray[j]! zs.toArray[i]! = false := by
  intro i j hij hj
  have := List.pairwise_iff_getElem.1 h i j (by omega) hj hij
  simpa [hj,show i < zs.length by omega] using this
 unfold Go.Lib.compact Go.Lib.compactUpTo
 rw [List.pairwise_map,List.pairwise_filter]
 rw [List.pairwise_iff_getElem]
 intro i j hi hj hij h1 h2
 simp only [List.getElem_range,List.length_range] at hi hj h1 h2 ⊢
 have hne : zs.toArray[j]! ≠ zs.toArray[j - 1]! := by
  unfold Go.Lib.keeps at h2
  rw [decide_eq_true_eq] at h2
  exact h2.resolve_left (by omega)
 have h3 := hle (j - 1) j (by omega) hj
 have h4 : bLess zs.toArray[j - 1]! zs.toArray[j]! = true := by
  rcases bL_tri zs.toArray[j - 1]! zs.toArray[j]! with h | h | h
  ·exact h
  ·exact absurd h.symm hne
  ·rw [h3] at h; cases h
 by_cases e : i = j - 1
 ·rw [e]; exact h4
 ·have h5 := hle i (j - 1) (by omega) (by omega)
  rcases bL_tri zs.toArray[i]! zs.toArray[j - 1]! with h | h | h
  ·exact bL_trans _ _ _ h h4
  ·rw [h]; exact h4
  ·rw [h5] at h; cases h
theorem sLt_text (a b : List UInt8) : sLt (textL a) (textL b) = bLess a b := by
 unfold sLt
 rw [bytes_toList,bytes_toList]
 unfold textL
 rfl
theorem comp_asc (l : List ByteArray) : ascS (compS (sortS l)) ∧ ∀ z,z ∈ compS (sortS l) ↔ z ∈ l := by
 have e : (sortS l).map bytesL = (l.map bytesL).mergeSort fun x y => decide (x ≤ y) := by
  unfold sortS
  rw [List.map_map]
  have : bytesL ∘ textL = id := by funext x; exact bytes_text x
  rw [this,List.map_id]
 constructor
 ·unfold compS ascS
  rw [List.pairwise_map,e]
  simp only [sLt_text]
  refine compact_asc ?_
  rw [le_bLess]
  exact List.pairwise_mergeSort (fun a b c h1 h2 => by
   have h1' : bLess b a = false := by simpa using h1
   have h2' : bLess c b = false := by simpa using h2
   simpa using bL_ntrans c b a h2' h1') (fun a b => by
   rcases bL_tri a b with h | h | h
   ·have : bLess b a = false := by cases h' : bLess b a with
     | false => rfl
     | true => have := bL_trans a b a h h'; rw [bL_irr] at this; cases this
    simp [this]
   ·rw [h,bL_irr]; rfl
   ·have : bLess a b = false := by cases h' : bLess a b with
     | false => rfl
     | true => have := bL_trans b a b h h'; rw [bL_irr] at this; cases this
    simp [this]) _
 ·intro z
  unfold compS
  rw [List.mem_map]
  constructor
  ·rintro ⟨x,hx,rfl⟩
   rw [compact_mem,e,List.mem_mergeSort,List.mem_map] at hx
   obtain ⟨y,hy,rfl⟩ := hx
   rw [text_bytes]; exact hy
  ·intro hz
   refine ⟨bytesL z,?_,text_bytes z⟩
   rw [compact_mem,e,List.mem_mergeSort]
   exact List.mem_map.2 ⟨z,hz,rfl⟩
theorem lost_same (t : TellingsT) : lostB t = lostA t := by
 obtain ⟨h1,h2⟩ := comp_asc ((allS t.Branches).filter fun n => !hasS (ownS t) n)
 obtain ⟨h3,h4⟩ := stps_ok (ownS t) (allS t.Branches) [] .nil
 refine asc_ext (lt := sLt) sLt_irrefl (fun x y z => sLt_trans) h1 h3 fun x => ?_
 unfold lostB lostA
 rw [h2,h4,List.mem_filter]
 simp
def lostD (t : TellingsT) : List ByteArray × Bool := if goodT t = true then (lostA t,true) else ([],false)
theorem zft (t : TellingsT) (ht : ok_Tellings t) : zbK t = some (lostD t) := by
 unfold zbK lostD
 rw [zbm _ ht]
 simp only [Option.bind_some]
 cases hg : goodT t
 ·simp
 rw [if_neg (by simp),if_pos rfl,zfs t hg,lost_same]
 rfl
theorem lostD_len (t : TellingsT) : (lostD t).1.length ≤ 720 := by
 unfold lostD
 cases hg : goodT t
 ·simp
 rw [if_pos rfl]
 have h1 := stps_len (ownS t) (allS t.Branches) []
 have h2 := allS_len (l := t.Branches) (all_small hg)
 have h3 := goodT_len hg
 unfold lostA
 simp only [List.length_nil,Nat.zero_add] at h1
 simp only; omega
end Go.TL
set_option maxRecDepth 4000
namespace Go.TL
def actB (r : RegionT) : Bool := r.Version.tmod 10 == r.Id
end Go.TL

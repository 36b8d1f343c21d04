import Derived.Test.YtjkeoippmlmfbaaGreatDoorG21PlR3M
import Derived.Test.YtjkeoippmlmfbaaGreatDoorG27PpR3D
import Derived.Test.YtjkeoippmlmfbaaGreatDoorG26PpR2D
set_option linter.unusedSimpArgs false
set_option linter.unusedVariables false
set_option linter.unusedVariables false
set_option linter.unusedSimpArgs false
set_option maxRecDepth 4000
namespace Go.TL
section
variable {β γ τ : Type}
/-- Elements marked one behind the other,each as wide as it is. -/
def mseq (f : Int → β → β) (wd : β → Nat) : List β → Int → List β
  | [],_ => []
  | b :: r,k => f k b :: mseq f wd r (k + wd b)
def totw (wd : β → Nat) (l : List β) : Nat := sumN (l.map wd)
theorem totw_cons (wd : β → Nat) (b : β) (r : List β) : totw wd (b :: r) = wd b + totw wd r := rfl
theorem mseq_len (f : Int → β → β) (wd : β → Nat) : ∀ (l : List β) (k : Int),(mseq f wd l k).length = l.length
  | [],_ => rfl
  | b :: r,k => by simp [mseq,mseq_len f wd r]
theorem nth_app [Inhabited β] {p q : List β} {x : β} (h : p.length = q.length) (r : List β) : nth (p ++ x :: r) q.length = x := by
  unfold nth
  rw [List.getD_eq_getElem?_getD,← h]
  simp
theorem markseq_loop [Inhabited β] {step : γ → Option (γ ⊕ τ)} (mk : Int → Int → List β → γ) (wd : β → Nat) (f : Int → β → β) (l0 : List β) (B : Int) (ex : Int → List β → τ)
    (hs : ∀ (i : Nat) (k : Int) (l : List β),i < l0.length → l.length = l0.length → nth l i = nth l0 i → 0 ≤ k → k + wd (nth l0 i) ≤ B → step (mk i k l) = some (.inl (mk (i + 1 : Nat) (k + wd (nth l0 i)) (l.set i (f k (nth l0 i))))))
    (he : ∀ k l,l.length = l0.length → step (mk l0.length k l) = some (.inr (ex k l))) (k0 : Int) (hk : 0 ≤ k0) (hb : k0 + totw wd l0 ≤ B) :
    loopF step (mk 0 k0 l0) = some (ex (k0 + totw wd l0) (mseq f wd l0 k0)) := by
  have key : ∀ (r p q : List β) (k : Int),l0 = p ++ r → q.length = p.length → 0 ≤ k → k + totw wd r ≤ B → loopF step (mk p.length k (q ++ r)) = some (ex (k + totw wd r) (q ++ mseq f wd r k)) := by
    intro r
    induction r with
    | nil =>
      intro p q k h hq hk hb
      have e : p.length = l0.length := by rw [h]; simp
      rw [e,loop_out (he _ _ (by simp [hq,e]))]
      simp [totw,sumN,mseq]
    | cons b r ih =>
      intro p q k h hq hk hb
      rw [totw_cons] at hb ⊢
      have hi : p.length < l0.length := by rw [h]; simp
      have hn : nth l0 p.length = b := by rw [h]; exact nth_app rfl r
      have hn2 : nth (q ++ b :: r) p.length = b := by rw [← hq]; exact nth_app rfl r
      have := hs p.length k (q ++ b :: r) hi (by rw [h]; simp [hq]) (by rw [hn,hn2]) hk (by rw [hn]; omega)
      rw [loop_on this,hn]
      have e1 : (q ++ b :: r).set p.length (f k b) = (q ++ [f k b]) ++ r := by
        rw [← hq,List.set_append_right _ _ (by omega)]; simp
      have e2 : ((p.length + 1 : Nat) : Int) = ((p ++ [b]).length : Int) := by simp
      rw [e1,e2,ih (p ++ [b]) (q ++ [f k b]) (k + wd b) (by rw [h]; simp) (by simp [hq]) (by omega) (by omega)]
      simp only [mseq,List.append_assoc,List.singleton_append]
      congr 2
      omega
  have := key l0 [] [] k0 rfl rfl hk hb
  simpa using this
theorem heldseq_loop [Inhabited β] {step : γ → Option (γ ⊕ (Unit ⊕ τ))} (mk : Int → Int → γ) (wd : β → Nat) (f : Int → β → β) (l0 : List β) (B : Int) (late : Int → τ) (k0 : Int)
    (hs : ∀ (i : Nat) (k : Int),i < l0.length → nth (mseq f wd l0 k0) i = f k (nth l0 i) → 0 ≤ k → k + wd (nth l0 i) ≤ B → step (mk i k) = some (.inl (mk (i + 1 : Nat) (k + wd (nth l0 i)))))
    (he : ∀ k,step (mk l0.length k) = some (.inr (.inr (late k)))) (hk : 0 ≤ k0) (hb : k0 + totw wd l0 ≤ B) :
    loopF step (mk 0 k0) = some (.inr (late (k0 + totw wd l0))) := by
  have key : ∀ (r p q : List β) (k : Int),l0 = p ++ r → mseq f wd l0 k0 = q ++ mseq f wd r k → q.length = p.length → 0 ≤ k → k + totw wd r ≤ B → loopF step (mk p.length k) = some (.inr (late (k + totw wd r))) := by
    intro r
    induction r with
    | nil =>
      intro p q k h hm hq hk hb
      have e : p.length = l0.length := by rw [h]; simp
      rw [e,loop_out (he _)]
      simp [totw,sumN]
    | cons b r ih =>
      intro p q k h hm hq hk hb
      rw [totw_cons] at hb ⊢
      have hi : p.length < l0.length := by rw [h]; simp
      have hn : nth l0 p.length = b := by rw [h]; exact nth_app rfl r
      have hn2 : nth (mseq f wd l0 k0) p.length = f k b := by rw [hm,← hq]; exact nth_app rfl _
      have := hs p.length k hi (by rw [hn,hn2]) hk (by rw [hn]; omega)
      rw [loop_on this,hn]
      have e2 : ((p.length + 1 : Nat) : Int) = ((p ++ [b]).length : Int) := by simp
      rw [e2,ih (p ++ [b]) (q ++ [f k b]) (k + wd b) (by rw [h]; simp) (by rw [hm]; simp [mseq]) (by simp [hq]) (by omega) (by omega)]
      congr 3
      omega
  have := key l0 [] [] k0 rfl rfl rfl hk hb
  simpa using this
theorem totw_bound {wd : β → Nat} {l : List β} {M : Nat} (h : ∀ x ∈ l,wd x ≤ M) : totw wd l ≤ M * l.length := by
  unfold totw
  induction l with
  | nil => simp [sumN]
  | cons b r ih =>
    simp only [List.map_cons,sumN,List.length_cons,Nat.mul_succ]
    have := h b (by simp)
    have := ih fun x hx => h x (by simp [hx])
    omega
end
theorem held_EventS_eq (n : Nat) (k : Int) (hk : 0 ≤ k) (hl : n ≤ 1099511627776) (hb : k + ((4 * n : Nat) : Int) ≤ 1152921504606846976) :
    laws_heldEventS (marks mEvent 4 k n) k = some (k + ((4 * n : Nat) : Int)) := by
  unfold laws_heldEventS
  have key := held_loop (step := laws_heldEventS_L1 (marks mEvent 4 k n)) (fun i k => (⟨k,i⟩ : laws_heldEventS_G1)) 4 mEvent n 1152921504606846976 (fun k => (⟨k⟩ : laws_heldEventS_P1_1)) k (fun i k' hi hn h0 h1 => ?_) (fun k' => ?_) hk hb
  · rw [key]; rfl
  · unfold laws_heldEventS_L1
    have e1 : wI (k' + 1) = k' + 1 := wI_id (by omega)
    have e2 : wI (k' + 1 + 1) = k' + 2 := by rw [wI_id (by omega)]; omega
    have e3 : wI (k' + 2 + 1) = k' + 3 := by rw [wI_id (by omega)]; omega
    have e4 : wI (k' + 3 + 1) = k' + 4 := by rw [wI_id (by omega)]; omega
    have e5 : wI ((i : Int) + 1) = ((i + 1 : Nat) : Int) := by rw [wI_id (by omega)]; omega
    simp only [e1,e2,e3,e4,e5]
    rw [if_pos (by simp [marks_length]; omega),markText_eq (k' + 3) (by omega) (by omega)]
    simp (disch := simp only [marks_length]; omega) only [Option.bind_some,guard_pos,Int.toNat_natCast]
    rw [if_neg (by simp [hn,mEvent]),if_neg (by simp [hn,mEvent]),if_neg (by simp [hn,mEvent]),if_neg (by simp [hn,mEvent])]
    rfl
  · unfold laws_heldEventS_L1
    rw [if_neg (by simp [marks_length])]
/-- A branch,marked. -/
noncomputable def mBranch (k : Int) (b : BranchT) : BranchT := ⟨marks mEvent 4 k b.Events.length⟩
def wBranch (b : BranchT) : Nat := 4 * b.Events.length
noncomputable abbrev mBrs (l : List BranchT) (k : Int) : List BranchT := mseq mBranch wBranch l k
abbrev nBrs (l : List BranchT) : Nat := totw wBranch l
theorem mark_BranchS_eq (l : List BranchT) (k : Int) (hk : 0 ≤ k) (hl : l.length ≤ 1099511627776) (hb : k + nBrs l ≤ 1099511627776) :
    laws_markBranchS_wd l k = some (k + nBrs l,mBrs l k) := by
  unfold laws_markBranchS_wd
  have key := markseq_loop (step := laws_markBranchS_wd_L1) (fun i k l => (⟨k,i,l⟩ : laws_markBranchS_wd_G1)) wBranch mBranch l 1099511627776 (fun k l => (⟨k,l⟩ : laws_markBranchS_wd_P1_0)) (fun i k l' hi hl' hn h0 h1 => ?_) (fun k l' hl' => ?_) k hk hb
  · rw [key]; rfl
  · unfold laws_markBranchS_wd_L1
    unfold wBranch at h1 ⊢
    dsimp only
    rw [if_pos (by simp; omega),guard_pos (by omega),guard_pos (by omega),Int.toNat_natCast,hn,mark_EventS_eq _ _ h0 (by omega) (by omega)]
    simp only [Option.bind_some]
    rw [guard_pos (marks_length ..),wI_id (by omega)]
    rfl
  · unfold laws_markBranchS_wd_L1
    rw [if_neg (by simp; omega)]
theorem held_BranchS_eq (l : List BranchT) (k : Int) (hk : 0 ≤ k) (hl : l.length ≤ 1099511627776) (hb : k + nBrs l ≤ 1099511627776) :
    laws_heldBranchS (mBrs l k) k = some (k + nBrs l) := by
  unfold laws_heldBranchS
  have key := heldseq_loop (step := laws_heldBranchS_L1 (mBrs l k)) (fun i k => (⟨k,i⟩ : laws_heldBranchS_G1)) wBranch mBranch l 1099511627776 (fun k => (⟨k⟩ : laws_heldBranchS_P1_1)) k (fun i k' hi hn h0 h1 => ?_) (fun k' => ?_) hk hb
  · rw [key]; rfl
  · unfold laws_heldBranchS_L1
    unfold wBranch at h1 ⊢
    dsimp only
    rw [if_pos (by simp [mseq_len]; omega),guard_pos (by simp [mseq_len]; omega),Int.toNat_natCast,hn]
    unfold mBranch
    dsimp only
    rw [held_EventS_eq _ _ h0 (by omega) (by omega)]
    simp only [Option.bind_some]
    rw [if_neg (by simp; omega),wI_id (by omega)]
    rfl
  · unfold laws_heldBranchS_L1
    rw [if_neg (by simp [mseq_len])]
theorem mark_Tellings_eq (t : TellingsT) (k : Int) (hk : 0 ≤ k) (hl : t.Branches.length ≤ 1099511627776) (hb : k + nBrs t.Branches ≤ 1099511627776) :
    laws_markTellings_wd t k = some (k + nBrs t.Branches,mBrs t.Branches k) := by
  unfold laws_markTellings_wd
  rw [mark_BranchS_eq _ _ hk hl hb]
  simp only [Option.bind_some]
  rw [guard_pos (mseq_len ..)]
theorem held_Tellings_eq (l : List BranchT) (k : Int) (hk : 0 ≤ k) (hl : l.length ≤ 1099511627776) (hb : k + nBrs l ≤ 1099511627776) :
    laws_heldTellings ⟨mBrs l k⟩ k = some (k + nBrs l) := by
  unfold laws_heldTellings
  dsimp only
  rw [held_BranchS_eq _ _ hk hl hb]
  simp only [Option.bind_some]
  rw [if_neg (by simp; omega)]
theorem mark_Region_eq (r : RegionT) (k : Int) (hk : 0 ≤ k) (hl : r.Tellings.Branches.length ≤ 1099511627776) (hb : k + nBrs r.Tellings.Branches ≤ 1099511627776) :
    laws_markRegion_wd r k = some (k + nBrs r.Tellings.Branches,mBrs r.Tellings.Branches k) := by
  unfold laws_markRegion_wd
  rw [mark_Tellings_eq _ _ hk hl hb]
  simp only [Option.bind_some]
  rw [guard_pos (mseq_len ..)]
theorem held_Region_eq (i v : Int) (l : List BranchT) (k : Int) (hk : 0 ≤ k) (hl : l.length ≤ 1099511627776) (hb : k + nBrs l ≤ 1099511627776) :
    laws_heldRegion ⟨i,v,⟨mBrs l k⟩⟩ k = some (k + nBrs l) := by
  unfold laws_heldRegion
  dsimp only
  rw [held_Tellings_eq _ _ hk hl hb]
  simp only [Option.bind_some]
  rw [if_neg (by simp; omega)]
theorem mark_Word_eq (r : WordT) (k : Int) (hk : 0 ≤ k) (hl : r.Tellings.Branches.length ≤ 1099511627776) (hb : k + nBrs r.Tellings.Branches ≤ 1099511627776) :
    laws_markWord_wd r k = some (k + nBrs r.Tellings.Branches,mBrs r.Tellings.Branches k) := by
  unfold laws_markWord_wd
  rw [mark_Tellings_eq _ _ hk hl hb]
  simp only [Option.bind_some]
  rw [guard_pos (mseq_len ..)]
end Go.TL
set_option linter.unusedVariables false
set_option linter.unusedSimpArgs false
set_option maxRecDepth 4000
namespace Go.TL
def ok_Region (x : RegionT) : Prop := ok_I x.Id ∧ ok_I x.Version ∧ ok_Tellings x.Tellings
def siz_Region (x : RegionT) : Nat := siz_I x.Id + siz_I x.Version + siz_Tellings x.Tellings
def lk_Region (x : RegionT) : Prop := lk_I x.Id ∧ lk_I x.Version ∧ lk_Tellings x.Tellings
theorem lk_of_Region {x : RegionT} (h : ok_Region x) : lk_Region x := ⟨lk_of_I h.1,lk_of_I h.2.1,lk_of_Tellings h.2.2⟩
theorem laws_szRegion_eq (a : RegionT) (n : Int) (ha : ok_Region a) (h0 : 0 ≤ n) (h1 : n ≤ 4611686018427387904) : laws_szRegion a n = some (szr (siz_Region a) n) := by
  unfold laws_szRegion
  unfold ok_Region at ha
  unfold siz_Region
  have z_Id : siz_I a.Id = 0 := siz0_I _
  rw [z_Id]
  have z_Version : siz_I a.Version = 0 := siz0_I _
  rw [z_Version]
  rw [laws_szTellings_eq _ _ (ha.2.2) (by omega) (by omega)]
  simp only [Option.bind_some]
  by_cases c0 : (siz_Tellings a.Tellings : Int) ≤ n
  rotate_left
  · have e : szr (siz_Tellings a.Tellings) n = -1 := by unfold szr; rw [if_neg c0]
    rw [e,if_pos (by decide)]; unfold szr; rw [if_neg (by omega)]
  have e0 : szr (siz_Tellings a.Tellings) n = n - (siz_Tellings a.Tellings : Int) := by unfold szr; rw [if_pos c0]
  rw [e0,if_neg (by simp; omega)]
  unfold szr; rw [if_pos (by omega)]
  congr 1; omega
theorem laws_toRegion_eq (a : RegionT) (ha : siz_Region a ≤ 4194304) : laws_toRegion a = some a := by
  unfold siz_Region at ha
  unfold laws_toRegion
  rw [laws_toTellings_eq _ (by omega)]
  simp only [Option.bind_some]
  all_goals rfl
theorem laws_eqRegion_eq (a b : RegionT) (ha : lk_Region a) : laws_eqRegion a b = some (decide (a = b)) := by
  unfold lk_Region at ha
  unfold laws_eqRegion
  rw [laws_eqTellings_eq _ _ (ha.2.2)]
  obtain ⟨x0,x1,x2⟩ := a
  obtain ⟨y0,y1,y2⟩ := b
  simp only [sEq,Option.bind_some,RegionT.mk.injEq]
  by_cases h0 : x0 = y0
  rotate_left
  · simp [h0]
  by_cases h1 : x1 = y1
  rotate_left
  · simp [h1]
  by_cases h2 : x2 = y2
  rotate_left
  · simp [h2]
  simp [h0,h1,h2]
def ok_Word (x : WordT) : Prop := ok_I x.Version ∧ ok_Tellings x.Tellings
def siz_Word (x : WordT) : Nat := siz_I x.Version + siz_Tellings x.Tellings
def lk_Word (x : WordT) : Prop := lk_I x.Version ∧ lk_Tellings x.Tellings
theorem lk_of_Word {x : WordT} (h : ok_Word x) : lk_Word x := ⟨lk_of_I h.1,lk_of_Tellings h.2⟩
theorem laws_szWord_eq (a : WordT) (n : Int) (ha : ok_Word a) (h0 : 0 ≤ n) (h1 : n ≤ 4611686018427387904) : laws_szWord a n = some (szr (siz_Word a) n) := by
  unfold laws_szWord
  unfold ok_Word at ha
  unfold siz_Word
  have z_Version : siz_I a.Version = 0 := siz0_I _
  rw [z_Version]
  rw [laws_szTellings_eq _ _ (ha.2) (by omega) (by omega)]
  simp only [Option.bind_some]
  by_cases c0 : (siz_Tellings a.Tellings : Int) ≤ n
  rotate_left
  · have e : szr (siz_Tellings a.Tellings) n = -1 := by unfold szr; rw [if_neg c0]
    rw [e,if_pos (by decide)]; unfold szr; rw [if_neg (by omega)]
  have e0 : szr (siz_Tellings a.Tellings) n = n - (siz_Tellings a.Tellings : Int) := by unfold szr; rw [if_pos c0]
  rw [e0,if_neg (by simp; omega)]
  unfold szr; rw [if_pos (by omega)]
  congr 1; omega
theorem laws_toWord_eq (a : WordT) (ha : siz_Word a ≤ 4194304) : laws_toWord a = some a := by
  unfold siz_Word at ha
  unfold laws_toWord
  rw [laws_toTellings_eq _ (by omega)]
  simp only [Option.bind_some]
  all_goals rfl
theorem laws_eqWord_eq (a b : WordT) (ha : lk_Word a) : laws_eqWord a b = some (decide (a = b)) := by
  unfold lk_Word at ha
  unfold laws_eqWord
  rw [laws_eqTellings_eq _ _ (ha.2)]
  obtain ⟨x0,x1⟩ := a
  obtain ⟨y0,y1⟩ := b
  simp only [sEq,Option.bind_some,WordT.mk.injEq]
  by_cases h0 : x0 = y0
  rotate_left
  · simp [h0]
  by_cases h1 : x1 = y1
  rotate_left
  · simp [h1]
  simp [h0,h1]
end Go.TL
set_option linter.unusedVariables false
set_option linter.unusedSimpArgs false
namespace Go.TL

/-- No event is of a greater version. -/
def oldE (v : Int) (l : List EventT) : Bool := l.all fun e => !decide (e.Version > v)
def oldT (v : Int) (t : TellingsT) : Bool := t.Branches.all fun b => oldE v b.Events
def wordP (v : Int) (t : TellingsT) : Bool := verP v && goodT t && oldT v t
def goodR (r : RegionT) : Bool := decide (0 ≤ r.Id ∧ r.Id ≤ 9) && wordP r.Version r.Tellings
theorem spec_GoodRegion_eq (r : RegionT) (hr : ok_Region r) : spec_GoodRegion r = some (goodR r) := by
  have ht : ok_Tellings r.Tellings := hr.2.2
  have h1 : r.Tellings.Branches.length ≤ 9223372036854775807 := ht.1
  unfold spec_GoodRegion spec_l13Version goodR wordP
  simp only [spec_l1In_eq,spec_GoodTellings_eq _ ht,Option.bind_some]
  have key := all_loop (step := spec_GoodRegion_L1 r) (fun i => (⟨i⟩ : spec_GoodRegion_G1)) r.Tellings.Branches.length (fun i => oldE r.Version (nth r.Tellings.Branches i).Events) (.inr () : Unit ⊕ Unit) (.inl ()) (fun i hi hv => ?_) (fun _ => ?_)
  · rw [key,allN_nth r.Tellings.Branches fun b => oldE r.Version b.Events]
    unfold oldT verP
    cases decide (0 ≤ r.Id ∧ r.Id ≤ 9) <;> cases decide (0 ≤ r.Version ∧ r.Version ≤ 1000000) <;> cases goodT r.Tellings <;> cases (r.Tellings.Branches.all fun b => oldE r.Version b.Events) <;> simp
  · have h2 : ok_LEvent (nth r.Tellings.Branches i).Events := ht.2 _ (nth_mem hi)
    have h3 := h2.1
    unfold spec_GoodRegion_L1
    dsimp only
    rw [if_pos (by rw [decide_eq_true_eq]; omega),guard_pos (by omega)]
    have e1 : wI ((i : Int) + 1) = ((i + 1 : Nat) : Int) := by rw [wI_id (by omega)]; omega
    rw [e1]
    have key2 := all_loop (step := spec_GoodRegion_L2 r (⟨(i : Int)⟩ : spec_GoodRegion_G1)) (fun k => (⟨k⟩ : spec_GoodRegion_G2)) (nth r.Tellings.Branches i).Events.length (fun k => !decide ((nth (nth r.Tellings.Branches i).Events k).Version > r.Version)) (.inr () : Unit ⊕ Unit) (.inl ()) (fun k hk _ => ?_) (fun _ => ?_)
    · rw [key2,allN_nth (nth r.Tellings.Branches i).Events fun e => !decide (e.Version > r.Version)]
      unfold oldE
      split <;> rfl
    · unfold spec_GoodRegion_L2
      simp only [Int.toNat_natCast]
      have e2 : wI ((k : Int) + 1) = ((k + 1 : Nat) : Int) := by rw [wI_id (by omega)]; omega
      rw [if_pos (by rw [decide_eq_true_eq]; omega),guard_pos (by omega),e2]
      cases decide ((nth (nth r.Tellings.Branches i).Events k).Version > r.Version) <;> rfl
    · unfold spec_GoodRegion_L2
      simp only [Int.toNat_natCast]
      rw [if_neg (by rw [decide_eq_true_eq]; omega)]
  · unfold spec_GoodRegion_L1
    dsimp only
    rw [if_neg (by rw [decide_eq_true_eq]; omega)]
theorem impl_old_eq (l : List EventT) (v : Int) (hl : l.length ≤ 9223372036854775807) : slices_ContainsFunc_impl_Event_impl_wordOk_c1_c1r l v = some (!oldE v l) := by
  unfold slices_ContainsFunc_impl_Event_impl_wordOk_c1_c1r slices_IndexFunc_impl_Event_impl_wordOk_c1_c1r
  have key := find_loop (step := slices_IndexFunc_impl_Event_impl_wordOk_c1_c1r_L1 l v) (fun i => (⟨i⟩ : slices_IndexFunc_impl_Event_impl_wordOk_c1_c1r_G1)) l.length (fun i => decide ((nth l i).Version > v))
    (fun i => (.inl ⟨i⟩ : slices_IndexFunc_impl_Event_impl_wordOk_c1_c1r_P1_0 ⊕ Unit)) (.inr ()) (fun i hi hv => ?_) ?_
  · rw [key]
    have e := findN_any l fun e => decide (e.Version > v)
    have e2 : (!oldE v l) = (l.any fun e => decide (e.Version > v)) := by
      unfold oldE
      rw [Bool.eq_iff_iff]; simp
    rw [e2,← e]
    cases findN (fun i => decide ((nth l i).Version > v)) l.length with
    | none => rfl
    | some i => simp
  · unfold slices_IndexFunc_impl_Event_impl_wordOk_c1_c1r_L1 impl_wordOk_c1_c1_r
    dsimp only
    have e1 : wI ((i : Int) + 1) = ((i + 1 : Nat) : Int) := by rw [wI_id (by omega)]; omega
    rw [if_pos (by rw [decide_eq_true_eq]; omega),guard_pos (by omega),e1]
    simp only [Option.bind_some,Int.toNat_natCast]
    cases decide ((nth l i).Version > v) <;> rfl
  · unfold slices_IndexFunc_impl_Event_impl_wordOk_c1_c1r_L1
    dsimp only
    rw [if_neg (by rw [decide_eq_true_eq]; omega)]
theorem impl_oldT_eq (t : TellingsT) (v : Int) (ht : ok_Tellings t) : slices_ContainsFunc_impl_Branch_impl_wordOk_c1r t.Branches v = some (!oldT v t) := by
  have h1 : t.Branches.length ≤ 9223372036854775807 := ht.1
  unfold slices_ContainsFunc_impl_Branch_impl_wordOk_c1r slices_IndexFunc_impl_Branch_impl_wordOk_c1r
  have key := find_loop (step := slices_IndexFunc_impl_Branch_impl_wordOk_c1r_L1 t.Branches v) (fun i => (⟨i⟩ : slices_IndexFunc_impl_Branch_impl_wordOk_c1r_G1)) t.Branches.length (fun i => !oldE v (nth t.Branches i).Events)
    (fun i => (.inl ⟨i⟩ : slices_IndexFunc_impl_Branch_impl_wordOk_c1r_P1_0 ⊕ Unit)) (.inr ()) (fun i hi hv => ?_) ?_
  · rw [key]
    have e := findN_any t.Branches fun b => !oldE v b.Events
    have e2 : (!oldT v t) = (t.Branches.any fun b => !oldE v b.Events) := by
      unfold oldT
      rw [Bool.eq_iff_iff]; simp
    rw [e2,← e]
    cases findN (fun i => !oldE v (nth t.Branches i).Events) t.Branches.length with
    | none => rfl
    | some i => simp
  · unfold slices_IndexFunc_impl_Branch_impl_wordOk_c1r_L1 impl_wordOk_c1_r
    dsimp only
    have e1 : wI ((i : Int) + 1) = ((i + 1 : Nat) : Int) := by rw [wI_id (by omega)]; omega
    rw [if_pos (by rw [decide_eq_true_eq]; omega),guard_pos (by omega),e1,Int.toNat_natCast,impl_old_eq _ _ (ht.2 _ (nth_mem hi)).1]
    simp only [Option.bind_some]
    cases oldE v (nth t.Branches i).Events <;> rfl
  · unfold slices_IndexFunc_impl_Branch_impl_wordOk_c1r_L1
    dsimp only
    rw [if_neg (by rw [decide_eq_true_eq]; omega)]
theorem impl_wordOk_eq (v : Int) (t : TellingsT) (ht : ok_Tellings t) : impl_wordOk v t = some (wordP v t) := by
  unfold impl_wordOk impl_isVersion wordP verP
  simp only [impl_in_eq,impl_GoodTellings_eq _ ht,impl_oldT_eq _ _ ht,Option.bind_some]
  cases decide (0 ≤ v ∧ v ≤ 1000000) <;> cases goodT t <;> simp
theorem impl_GoodRegion_eq (r : RegionT) (hr : ok_Region r) : impl_GoodRegion r = some (goodR r) := by
  unfold impl_GoodRegion impl_isRegion goodR
  simp only [impl_in_eq,impl_wordOk_eq _ _ hr.2.2,Option.bind_some]
  cases decide (0 ≤ r.Id ∧ r.Id ≤ 9) <;> simp
theorem goodR_zero (v : Int) (t : TellingsT) : goodR ⟨0,v,t⟩ = wordP v t := by
  unfold goodR
  simp
theorem evs_same {a b : List EventT} (ha : histP a = true) (hb : histP b = true) : (cmpL a b).1 = 0 ↔ a = b := by
  unfold cmpL
  cases hf : firstD a b with
  | some i =>
    obtain ⟨h1,h2,h3⟩ := findN_lt hf
    simp only [ne_eq,decide_not,Bool.not_eq_true',decide_eq_false_iff_not] at h2
    simp only
    constructor
    · intro h; exact absurd h h2
    · intro h; subst h; exact absurd ((evC_zero _ _).2 ⟨rfl,rfl,rfl⟩) h2
  | none =>
    have h1 := findN_no hf
    simp only
    constructor
    · intro h
      have hl : a.length = b.length := by
        split at h
        · simp at h
        · split at h
          · simp at h
          · omega
      refine list_ext hl fun j hj => ?_
      have := h1 j (by omega)
      simp only [ne_eq,decide_not,Bool.not_eq_false',decide_eq_true_eq] at this
      exact (hist_same ha hb hj (by omega)).2 this
    · intro h; subst h; simp
theorem goodR_tell {r : RegionT} (h : goodR r = true) : goodT r.Tellings = true := by
  unfold goodR wordP at h
  simp only [Bool.and_eq_true] at h
  exact h.2.1.2
end Go.TL
set_option linter.unusedVariables false
set_option linter.unusedSimpArgs false
set_option maxRecDepth 4000
namespace Go.TL
def smallT (t : TellingsT) : Prop := t.Branches.length ≤ 12 ∧ ∀ i,i < t.Branches.length → (nth t.Branches i).Events.length ≤ 60
theorem goodT_small {t : TellingsT} (h : goodT t = true) : smallT t := ⟨goodT_len h,fun i hi => hist_len (tell_hist (goodT_tell h hi))⟩
theorem take_snoc {α : Type} [Inhabited α] {l : List α} {i : Nat} (h : i < l.length) : l.take i ++ [nth l i] = l.take (i + 1) := by
  rw [nth_eq h]; simp
theorem nBrs_size (l : List BranchT) : nBrs l ≤ 4 * sumN (l.map siz_Branch) := by
  induction l with
  | nil => simp [nBrs,totw,sumN]
  | cons b r ih =>
    have h : wBranch b ≤ 4 * siz_Branch b := by unfold wBranch siz_Branch siz_LEvent; omega
    unfold nBrs at ih ⊢
    rw [totw_cons]
    simp only [List.map_cons,sumN]
    omega
theorem tell_size {t : TellingsT} {n : Nat} (h : siz_Tellings t ≤ n) : t.Branches.length ≤ n ∧ nBrs t.Branches ≤ 4 * n := by
  have := nBrs_size t.Branches
  unfold siz_Tellings siz_LBranch at h
  omega
theorem lk_nil : lk_Tellings ⟨[]⟩ := by unfold lk_Tellings lk_LBranch; simp
theorem nBrs_nil : nBrs [] = 0 := rfl
end Go.TL
set_option linter.unusedVariables false
set_option linter.unusedSimpArgs false
namespace Go.TL

theorem firstD_sym (a b : List EventT) : firstD a b = firstD b a := by
  unfold firstD
  rw [Nat.min_comm]
  congr 1
  funext i
  congr 1
  apply propext
  rw [ne_eq,ne_eq,evC_zero,evC_zero]
  constructor <;> intro h e <;> exact h ⟨e.1.symm,e.2.1.symm,e.2.2.symm⟩
end Go.TL
set_option linter.unusedVariables false
set_option linter.unusedSimpArgs false
set_option maxRecDepth 4000
namespace Go.TL
theorem evC_anti (a b : EventT) : evC b a = -evC a b := by
  unfold evC
  by_cases h1 : a.Version = b.Version
  · by_cases h2 : a.Kind = b.Kind
    · rcases sLt_tri a.Name b.Name with h | h | h
      · simp [h1,h2,h,sLt_asym h]
      · simp [h1,h2,h,sLt_irrefl]
      · simp [h1,h2,h,sLt_asym h]
    · simp only [h1,h2,Ne.symm h2,ne_eq,not_true_eq_false,if_false,not_false_eq_true,if_true]
      by_cases h : a.Kind < b.Kind
      · rw [if_pos h,if_neg (by omega)]; rfl
      · rw [if_neg h,if_pos (by omega)]
  · simp only [h1,Ne.symm h1,ne_eq,not_false_eq_true,if_true]
    by_cases h : a.Version < b.Version
    · rw [if_pos h,if_neg (by omega)]; rfl
    · rw [if_neg h,if_pos (by omega)]
theorem cmpL_anti (a b : List EventT) : (cmpL b a).1 = -(cmpL a b).1 := by
  unfold cmpL
  rw [firstD_sym b a]
  cases firstD a b with
  | some i => simp only; exact evC_anti _ _
  | none =>
    simp only
    by_cases h : a.length < b.length
    · simp [h,show ¬ b.length < a.length by omega]
    · by_cases h' : b.length < a.length
      · simp [h,h']
      · simp [h,h']
end Go.TL
set_option linter.unusedVariables false
set_option linter.unusedSimpArgs false
set_option maxRecDepth 4000
namespace Go.TL
theorem accL_loop {γ τ β : Type} {step : γ → Option (γ ⊕ τ)} (mk : Int → β → γ) (n : Nat) (f : Nat → β) (late : β → τ)
    (hs : ∀ i,i < n → step (mk i (f i)) = some (.inl (mk (i + 1 : Nat) (f (i + 1))))) (he : step (mk n (f n)) = some (.inr (late (f n)))) : loopF step (mk 0 (f 0)) = some (late (f n)) := by
  have key : ∀ (m i : Nat),i + m = n → loopF step (mk i (f i)) = some (late (f n)) := by
    intro m
    induction m with
    | zero =>
      intro i h
      have e : i = n := by omega
      subst e
      exact loop_out he
    | succ m ih =>
      intro i h
      rw [loop_on (hs i (by omega))]
      exact ih (i + 1) (by omega)
  exact key n 0 (by omega)
/-- One more name. -/
def stp (own out : List ByteArray) (n : ByteArray) : List ByteArray := if (hasS own n || hasS out n) = true then out else turnP out n
end Go.TL

import Derived.Test.YtjkeoippmlmfbaaGreatDoorG22PlR3M
import Derived.Test.YtjkeoippmlmfbaaGreatDoorG38PpState
import Derived.Test.YtjkeoippmlmfbaaGreatDoorG36PpDom
import Derived.Test.YtjkeoippmlmfbaaGreatDoorPpSg
set_option linter.unusedSimpArgs false
set_option linter.unusedVariables false
set_option linter.unusedVariables false
set_option linter.unusedSimpArgs false
set_option maxRecDepth 4000
namespace Go.TL
section
variable {β γ τ : Type}
/-- Elements marked one behind the other, each as wide as it is. -/
def mseq (f : Int → β → β) (wd : β → Nat) : List β → Int → List β
  | [], _ => []
  | b :: r, k => f k b :: mseq f wd r (k + wd b)
def totw (wd : β → Nat) (l : List β) : Nat := sumN (l.map wd)
theorem totw_cons (wd : β → Nat) (b : β) (r : List β) : totw wd (b :: r) = wd b + totw wd r := rfl
theorem mseq_len (f : Int → β → β) (wd : β → Nat) : ∀ (l : List β) (k : Int), (mseq f wd l k).length = l.length
  | [], _ => rfl
  | b :: r, k => by simp [mseq, mseq_len f wd r]
theorem nth_app [Inhabited β] {p q : List β} {x : β} (h : p.length = q.length) (r : List β) : nth (p ++ x :: r) q.length = x := by
  unfold nth
  rw [List.getD_eq_getElem?_getD, ← h]
  simp
theorem markseq_loop [Inhabited β] {step : γ → Option (γ ⊕ τ)} (mk : Int → Int → List β → γ) (wd : β → Nat) (f : Int → β → β) (l0 : List β) (B : Int) (ex : Int → List β → τ)
    (hs : ∀ (i : Nat) (k : Int) (l : List β), i < l0.length → l.length = l0.length → nth l i = nth l0 i → 0 ≤ k → k + wd (nth l0 i) ≤ B → step (mk i k l) = some (.inl (mk (i + 1 : Nat) (k + wd (nth l0 i)) (l.set i (f k (nth l0 i))))))
    (he : ∀ k l, l.length = l0.length → step (mk l0.length k l) = some (.inr (ex k l))) (k0 : Int) (hk : 0 ≤ k0) (hb : k0 + totw wd l0 ≤ B) :
    loopF step (mk 0 k0 l0) = some (ex (k0 + totw wd l0) (mseq f wd l0 k0)) := by
  have key : ∀ (r p q : List β) (k : Int), l0 = p ++ r → q.length = p.length → 0 ≤ k → k + totw wd r ≤ B → loopF step (mk p.length k (q ++ r)) = some (ex (k + totw wd r) (q ++ mseq f wd r k)) := by
    intro r
    induction r with
    | nil =>
      intro p q k h hq hk hb
      have e : p.length = l0.length := by rw [h]; simp
      rw [e, loop_out (he _ _ (by simp [hq, e]))]
      simp [totw, sumN, mseq]
    | cons b r ih =>
      intro p q k h hq hk hb
      rw [totw_cons] at hb ⊢
      have hi : p.length < l0.length := by rw [h]; simp
      have hn : nth l0 p.length = b := by rw [h]; exact nth_app rfl r
      have hn2 : nth (q ++ b :: r) p.length = b := by rw [← hq]; exact nth_app rfl r
      have := hs p.length k (q ++ b :: r) hi (by rw [h]; simp [hq]) (by rw [hn, hn2]) hk (by rw [hn]; omega)
      rw [loop_on this, hn]
      have e1 : (q ++ b :: r).set p.length (f k b) = (q ++ [f k b]) ++ r := by
        rw [← hq, List.set_append_right _ _ (by omega)]; simp
      have e2 : ((p.length + 1 : Nat) : Int) = ((p ++ [b]).length : Int) := by simp
      rw [e1, e2, ih (p ++ [b]) (q ++ [f k b]) (k + wd b) (by rw [h]; simp) (by simp [hq]) (by omega) (by omega)]
      simp only [mseq, List.append_assoc, List.singleton_append]
      congr 2
      omega
  have := key l0 [] [] k0 rfl rfl hk hb
  simpa using this
end
/-- A branch, marked. -/
noncomputable def mBranch (k : Int) (b : BranchT) : BranchT := ⟨marks mEvent 4 k b.Events.length⟩
def wBranch (b : BranchT) : Nat := 4 * b.Events.length
noncomputable abbrev mBrs (l : List BranchT) (k : Int) : List BranchT := mseq mBranch wBranch l k
abbrev nBrs (l : List BranchT) : Nat := totw wBranch l
theorem mark_BranchS_eq (l : List BranchT) (k : Int) (hk : 0 ≤ k) (hl : l.length ≤ 1099511627776) (hb : k + nBrs l ≤ 1099511627776) :
    laws_markBranchS_wd l k = some (k + nBrs l, mBrs l k) := by
  unfold laws_markBranchS_wd
  have key := markseq_loop (step := laws_markBranchS_wd_L1) (fun i k l => (⟨k, i, l⟩ : laws_markBranchS_wd_G1)) wBranch mBranch l 1099511627776 (fun k l => (⟨k, l⟩ : laws_markBranchS_wd_P1_0)) (fun i k l' hi hl' hn h0 h1 => ?_) (fun k l' hl' => ?_) k hk hb
  · rw [key]; rfl
  · unfold laws_markBranchS_wd_L1
    unfold wBranch at h1 ⊢
    dsimp only
    rw [if_pos (by simp; omega), guard_pos (by omega), guard_pos (by omega), Int.toNat_natCast, hn, mark_EventS_eq _ _ h0 (by omega) (by omega)]
    simp only [Option.bind_some]
    rw [guard_pos (marks_length ..), wI_id (by omega)]
    rfl
  · unfold laws_markBranchS_wd_L1
    rw [if_neg (by simp; omega)]
end Go.TL
set_option linter.unusedVariables false
set_option linter.unusedSimpArgs false
set_option maxRecDepth 4000
namespace Go.TL
def ok_Region (x : RegionT) : Prop := ok_I x.Id ∧ ok_I x.Version ∧ ok_Tellings x.Tellings
def siz_Region (x : RegionT) : Nat := siz_I x.Id + siz_I x.Version + siz_Tellings x.Tellings
def lk_Region (x : RegionT) : Prop := lk_I x.Id ∧ lk_I x.Version ∧ lk_Tellings x.Tellings
theorem lk_of_Region {x : RegionT} (h : ok_Region x) : lk_Region x := ⟨lk_of_I h.1, lk_of_I h.2.1, lk_of_Tellings h.2.2⟩
theorem laws_szRegion_eq (a : RegionT) (n : Int) (ha : ok_Region a) (h0 : 0 ≤ n) (h1 : n ≤ 4611686018427387904) : laws_szRegion a n = some (szr (siz_Region a) n) := by
  unfold laws_szRegion
  unfold ok_Region at ha
  unfold siz_Region
  have z_Id : siz_I a.Id = 0 := siz0_I _
  rw [z_Id]
  have z_Version : siz_I a.Version = 0 := siz0_I _
  rw [z_Version]
  rw [laws_szTellings_eq _ _ (ha.2.2) (by omega) (by omega)]
  simp only [Option.bind_some]
  by_cases c0 : (siz_Tellings a.Tellings : Int) ≤ n
  rotate_left
  · have e : szr (siz_Tellings a.Tellings) n = -1 := by unfold szr; rw [if_neg c0]
    rw [e, if_pos (by decide)]; unfold szr; rw [if_neg (by omega)]
  have e0 : szr (siz_Tellings a.Tellings) n = n - (siz_Tellings a.Tellings : Int) := by unfold szr; rw [if_pos c0]
  rw [e0, if_neg (by simp; omega)]
  unfold szr; rw [if_pos (by omega)]
  congr 1; omega
theorem laws_toRegion_eq (a : RegionT) (ha : siz_Region a ≤ 4194304) : laws_toRegion a = some a := by
  unfold siz_Region at ha
  unfold laws_toRegion
  rw [laws_toTellings_eq _ (by omega)]
  simp only [Option.bind_some]
  all_goals rfl
theorem laws_eqRegion_eq (a b : RegionT) (ha : lk_Region a) : laws_eqRegion a b = some (decide (a = b)) := by
  unfold lk_Region at ha
  unfold laws_eqRegion
  rw [laws_eqTellings_eq _ _ (ha.2.2)]
  obtain ⟨x0, x1, x2⟩ := a
  obtain ⟨y0, y1, y2⟩ := b
  simp only [sEq, Option.bind_some, RegionT.mk.injEq]
  by_cases h0 : x0 = y0
  rotate_left
  · simp [h0]
  by_cases h1 : x1 = y1
  rotate_left
  · simp [h1]
  by_cases h2 : x2 = y2
  rotate_left
  · simp [h2]
  simp [h0, h1, h2]
def ok_LRegion (x : (List RegionT)) : Prop := x.length ≤ 9223372036854775807 ∧ ∀ y ∈ x, ok_Region y
def siz_LRegion (x : (List RegionT)) : Nat := x.length + sumN (x.map siz_Region)
def lk_LRegion (x : (List RegionT)) : Prop := x.length ≤ 9223372036854775807 ∧ ∀ y ∈ x, lk_Region y
theorem lk_of_LRegion {x : (List RegionT)} (h : ok_LRegion x) : lk_LRegion x := ⟨h.1, fun y hy => lk_of_Region (h.2 y hy)⟩
theorem laws_szRegionS_eq (a : (List RegionT)) (n : Int) (ha : ok_LRegion a) (h0 : 0 ≤ n) (h1 : n ≤ 4611686018427387904) : laws_szRegionS a n = some (szr (siz_LRegion a) n) := by
  obtain ⟨ha1, ha2⟩ := ha
  unfold laws_szRegionS
  rw [wI_id (by omega)]
  by_cases hc : n - ((a.length : Nat) : Int) < 0
  · rw [if_pos (decide_eq_true hc)]
    unfold szr siz_LRegion
    rw [if_neg (by omega)]
  · rw [if_neg (by simpa using hc)]
    have key := sz_loop (step := laws_szRegionS_L1 a) (fun i s => (⟨s, i⟩ : laws_szRegionS_G1)) a siz_Region n (fun s => (.inr ⟨s⟩ : Unit ⊕ laws_szRegionS_P1_1)) (.inl ()) (fun i s hi hs => ?_) (fun s hs => ?_) (n - ((a.length : Nat) : Int)) ⟨by omega, by omega⟩
    · rw [key]
      unfold szr siz_LRegion
      by_cases h : (sumN (a.map siz_Region) : Int) ≤ n - ((a.length : Nat) : Int)
      · rw [if_pos h, if_pos (by omega)]; simp only [Option.bind_some]; congr 1; omega
      · rw [if_neg h, if_neg (by omega)]; rfl
    · have hm := ha2 _ (nth_mem hi)
      unfold laws_szRegionS_L1
      simp (disch := omega) only [decide_eq_true_eq, if_pos, guard_pos, Int.toNat_natCast, wI_id]
      rw [laws_szRegion_eq _ _ hm (by omega) (by omega)]
      simp only [Option.bind_some]
      unfold szr
      by_cases h : (siz_Region (nth a i) : Int) ≤ s
      · rw [if_pos h, if_pos h, if_neg (by omega)]; rfl
      · rw [if_neg h, if_neg h, if_pos (by omega)]
    · unfold laws_szRegionS_L1
      rw [if_neg (by simp)]
def ok_Word (x : WordT) : Prop := ok_I x.Version ∧ ok_Tellings x.Tellings
def siz_Word (x : WordT) : Nat := siz_I x.Version + siz_Tellings x.Tellings
def lk_Word (x : WordT) : Prop := lk_I x.Version ∧ lk_Tellings x.Tellings
theorem lk_of_Word {x : WordT} (h : ok_Word x) : lk_Word x := ⟨lk_of_I h.1, lk_of_Tellings h.2⟩
theorem laws_szWord_eq (a : WordT) (n : Int) (ha : ok_Word a) (h0 : 0 ≤ n) (h1 : n ≤ 4611686018427387904) : laws_szWord a n = some (szr (siz_Word a) n) := by
  unfold laws_szWord
  unfold ok_Word at ha
  unfold siz_Word
  have z_Version : siz_I a.Version = 0 := siz0_I _
  rw [z_Version]
  rw [laws_szTellings_eq _ _ (ha.2) (by omega) (by omega)]
  simp only [Option.bind_some]
  by_cases c0 : (siz_Tellings a.Tellings : Int) ≤ n
  rotate_left
  · have e : szr (siz_Tellings a.Tellings) n = -1 := by unfold szr; rw [if_neg c0]
    rw [e, if_pos (by decide)]; unfold szr; rw [if_neg (by omega)]
  have e0 : szr (siz_Tellings a.Tellings) n = n - (siz_Tellings a.Tellings : Int) := by unfold szr; rw [if_pos c0]
  rw [e0, if_neg (by simp; omega)]
  unfold szr; rw [if_pos (by omega)]
  congr 1; omega
def ok_Said (x : SaidT) : Prop := ok_I x.To ∧ ok_Word x.Word
def siz_Said (x : SaidT) : Nat := siz_I x.To + siz_Word x.Word
def lk_Said (x : SaidT) : Prop := lk_I x.To ∧ lk_Word x.Word
theorem lk_of_Said {x : SaidT} (h : ok_Said x) : lk_Said x := ⟨lk_of_I h.1, lk_of_Word h.2⟩
theorem laws_szSaid_eq (a : SaidT) (n : Int) (ha : ok_Said a) (h0 : 0 ≤ n) (h1 : n ≤ 4611686018427387904) : laws_szSaid a n = some (szr (siz_Said a) n) := by
  unfold laws_szSaid
  unfold ok_Said at ha
  unfold siz_Said
  have z_To : siz_I a.To = 0 := siz0_I _
  rw [z_To]
  rw [laws_szWord_eq _ _ (ha.2) (by omega) (by omega)]
  simp only [Option.bind_some]
  by_cases c0 : (siz_Word a.Word : Int) ≤ n
  rotate_left
  · have e : szr (siz_Word a.Word) n = -1 := by unfold szr; rw [if_neg c0]
    rw [e, if_pos (by decide)]; unfold szr; rw [if_neg (by omega)]
  have e0 : szr (siz_Word a.Word) n = n - (siz_Word a.Word : Int) := by unfold szr; rw [if_pos c0]
  rw [e0, if_neg (by simp; omega)]
  unfold szr; rw [if_pos (by omega)]
  congr 1; omega
def ok_LSaid (x : (List SaidT)) : Prop := x.length ≤ 9223372036854775807 ∧ ∀ y ∈ x, ok_Said y
def siz_LSaid (x : (List SaidT)) : Nat := x.length + sumN (x.map siz_Said)
def lk_LSaid (x : (List SaidT)) : Prop := x.length ≤ 9223372036854775807 ∧ ∀ y ∈ x, lk_Said y
theorem lk_of_LSaid {x : (List SaidT)} (h : ok_LSaid x) : lk_LSaid x := ⟨h.1, fun y hy => lk_of_Said (h.2 y hy)⟩
theorem laws_szSaidS_eq (a : (List SaidT)) (n : Int) (ha : ok_LSaid a) (h0 : 0 ≤ n) (h1 : n ≤ 4611686018427387904) : laws_szSaidS a n = some (szr (siz_LSaid a) n) := by
  obtain ⟨ha1, ha2⟩ := ha
  unfold laws_szSaidS
  rw [wI_id (by omega)]
  by_cases hc : n - ((a.length : Nat) : Int) < 0
  · rw [if_pos (decide_eq_true hc)]
    unfold szr siz_LSaid
    rw [if_neg (by omega)]
  · rw [if_neg (by simpa using hc)]
    have key := sz_loop (step := laws_szSaidS_L1 a) (fun i s => (⟨s, i⟩ : laws_szSaidS_G1)) a siz_Said n (fun s => (.inr ⟨s⟩ : Unit ⊕ laws_szSaidS_P1_1)) (.inl ()) (fun i s hi hs => ?_) (fun s hs => ?_) (n - ((a.length : Nat) : Int)) ⟨by omega, by omega⟩
    · rw [key]
      unfold szr siz_LSaid
      by_cases h : (sumN (a.map siz_Said) : Int) ≤ n - ((a.length : Nat) : Int)
      · rw [if_pos h, if_pos (by omega)]; simp only [Option.bind_some]; congr 1; omega
      · rw [if_neg h, if_neg (by omega)]; rfl
    · have hm := ha2 _ (nth_mem hi)
      unfold laws_szSaidS_L1
      simp (disch := omega) only [decide_eq_true_eq, if_pos, guard_pos, Int.toNat_natCast, wI_id]
      rw [laws_szSaid_eq _ _ hm (by omega) (by omega)]
      simp only [Option.bind_some]
      unfold szr
      by_cases h : (siz_Said (nth a i) : Int) ≤ s
      · rw [if_pos h, if_pos h, if_neg (by omega)]; rfl
      · rw [if_neg h, if_neg h, if_pos (by omega)]
    · unfold laws_szSaidS_L1
      rw [if_neg (by simp)]
def ok_World (x : WorldT) : Prop := ok_LRegion x.Regions ∧ ok_LSaid x.Line
def siz_World (x : WorldT) : Nat := siz_LRegion x.Regions + siz_LSaid x.Line
def lk_World (x : WorldT) : Prop := lk_LRegion x.Regions ∧ lk_LSaid x.Line
theorem lk_of_World {x : WorldT} (h : ok_World x) : lk_World x := ⟨lk_of_LRegion h.1, lk_of_LSaid h.2⟩
theorem laws_szWorld_eq (a : WorldT) (n : Int) (ha : ok_World a) (h0 : 0 ≤ n) (h1 : n ≤ 4611686018427387904) : laws_szWorld a n = some (szr (siz_World a) n) := by
  unfold laws_szWorld
  unfold ok_World at ha
  unfold siz_World
  rw [laws_szRegionS_eq _ _ (ha.1) (by omega) (by omega)]
  simp only [Option.bind_some]
  by_cases c0 : (siz_LRegion a.Regions : Int) ≤ n
  rotate_left
  · have e : szr (siz_LRegion a.Regions) n = -1 := by unfold szr; rw [if_neg c0]
    rw [e, if_pos (by decide)]; unfold szr; rw [if_neg (by omega)]
  have e0 : szr (siz_LRegion a.Regions) n = n - (siz_LRegion a.Regions : Int) := by unfold szr; rw [if_pos c0]
  rw [e0, if_neg (by simp; omega)]
  rw [laws_szSaidS_eq _ _ (ha.2) (by omega) (by omega)]
  simp only [Option.bind_some]
  by_cases c1 : (siz_LSaid a.Line : Int) ≤ (n - (siz_LRegion a.Regions : Int))
  rotate_left
  · have e : szr (siz_LSaid a.Line) (n - (siz_LRegion a.Regions : Int)) = -1 := by unfold szr; rw [if_neg c1]
    rw [e, if_pos (by decide)]; unfold szr; rw [if_neg (by omega)]
  have e1 : szr (siz_LSaid a.Line) (n - (siz_LRegion a.Regions : Int)) = (n - (siz_LRegion a.Regions : Int)) - (siz_LSaid a.Line : Int) := by unfold szr; rw [if_pos c1]
  rw [e1, if_neg (by simp; omega)]
  unfold szr; rw [if_pos (by omega)]
  congr 1; omega
theorem laws_toWord_eq (a : WordT) (ha : siz_Word a ≤ 4194304) : laws_toWord a = some a := by
  unfold siz_Word at ha
  unfold laws_toWord
  rw [laws_toTellings_eq _ (by omega)]
  simp only [Option.bind_some]
  all_goals rfl
theorem laws_toSaid_F_eq (a : SaidT) (ha : siz_Said a ≤ 4194304) : laws_toSaid_F a = some a := by
  unfold siz_Said at ha
  unfold laws_toSaid_F
  rw [laws_toWord_eq _ (by omega)]
  simp only [Option.bind_some]
  all_goals rfl
theorem laws_toSaidS_eq (a : (List SaidT)) (ha : siz_LSaid a ≤ 4194304) : laws_toSaidS a = some a := by
  unfold siz_LSaid at ha
  unfold laws_toSaidS
  rw [guard_pos (by omega)]
  have key := fill_loop (step := laws_toSaidS_L1 a) (fun i l => (⟨i, l⟩ : laws_toSaidS_G1)) a (fun x => x) (fun l => (⟨l⟩ : laws_toSaidS_P1_0)) (fun i l hi hl => ?_) (fun l hl => ?_) (List.replicate a.length (⟨0, (⟨0, (⟨[]⟩ : TellingsT)⟩ : WordT)⟩ : SaidT)) (by simp)
  · rw [key]; simp
  · unfold laws_toSaidS_L1
    have hm : siz_Said (nth a i) ≤ 4194304 := Nat.le_trans (sumN_mem siz_Said (nth_mem hi)) (by omega)
    simp (disch := omega) only [decide_eq_true_eq, if_pos, guard_pos, Int.toNat_natCast, wI_id]
    rw [laws_toSaid_F_eq _ hm]
    simp (disch := omega) only [Option.bind_some, guard_pos]
    rfl
  · unfold laws_toSaidS_L1
    rw [if_neg (by simp)]
theorem laws_eqRegionS_eq (a b : (List RegionT)) (ha : lk_LRegion a) : laws_eqRegionS a b = some (decide (a = b)) := by
  obtain ⟨ha1, ha2⟩ := ha
  unfold laws_eqRegionS
  by_cases hl : a.length = b.length
  · rw [if_neg (by simp [hl])]
    have key := eq_loop (step := laws_eqRegionS_L1 a b) (fun i => (⟨i⟩ : laws_eqRegionS_G1)) a b hl (fun i hi => ?_) ?_
    · rw [key]; by_cases h : a = b <;> simp [h]
    · have hm := ha2 _ (nth_mem hi)
      unfold laws_eqRegionS_L1
      simp (disch := omega) only [decide_eq_true_eq, if_pos, guard_pos, Int.toNat_natCast, wI_id]
      rw [laws_eqRegion_eq _ _ hm]; simp only [Option.bind_some]
      by_cases h : nth a i = nth b i <;> simp [h]
    · unfold laws_eqRegionS_L1
      rw [if_neg (by simp)]
  · rw [if_pos (by simp; omega)]
    simp [show a ≠ b from fun h => hl (by rw [h])]
theorem laws_eqWord_eq (a b : WordT) (ha : lk_Word a) : laws_eqWord a b = some (decide (a = b)) := by
  unfold lk_Word at ha
  unfold laws_eqWord
  rw [laws_eqTellings_eq _ _ (ha.2)]
  obtain ⟨x0, x1⟩ := a
  obtain ⟨y0, y1⟩ := b
  simp only [sEq, Option.bind_some, WordT.mk.injEq]
  by_cases h0 : x0 = y0
  rotate_left
  · simp [h0]
  by_cases h1 : x1 = y1
  rotate_left
  · simp [h1]
  simp [h0, h1]
theorem laws_eqSaid_eq (a b : SaidT) (ha : lk_Said a) : laws_eqSaid a b = some (decide (a = b)) := by
  unfold lk_Said at ha
  unfold laws_eqSaid
  rw [laws_eqWord_eq _ _ (ha.2)]
  obtain ⟨x0, x1⟩ := a
  obtain ⟨y0, y1⟩ := b
  simp only [sEq, Option.bind_some, SaidT.mk.injEq]
  by_cases h0 : x0 = y0
  rotate_left
  · simp [h0]
  by_cases h1 : x1 = y1
  rotate_left
  · simp [h1]
  simp [h0, h1]
theorem laws_eqSaidS_eq (a b : (List SaidT)) (ha : lk_LSaid a) : laws_eqSaidS a b = some (decide (a = b)) := by
  obtain ⟨ha1, ha2⟩ := ha
  unfold laws_eqSaidS
  by_cases hl : a.length = b.length
  · rw [if_neg (by simp [hl])]
    have key := eq_loop (step := laws_eqSaidS_L1 a b) (fun i => (⟨i⟩ : laws_eqSaidS_G1)) a b hl (fun i hi => ?_) ?_
    · rw [key]; by_cases h : a = b <;> simp [h]
    · have hm := ha2 _ (nth_mem hi)
      unfold laws_eqSaidS_L1
      simp (disch := omega) only [decide_eq_true_eq, if_pos, guard_pos, Int.toNat_natCast, wI_id]
      rw [laws_eqSaid_eq _ _ hm]; simp only [Option.bind_some]
      by_cases h : nth a i = nth b i <;> simp [h]
    · unfold laws_eqSaidS_L1
      rw [if_neg (by simp)]
  · rw [if_pos (by simp; omega)]
    simp [show a ≠ b from fun h => hl (by rw [h])]
theorem laws_eqWorld_eq (a b : WorldT) (ha : lk_World a) : laws_eqWorld a b = some (decide (a = b)) := by
  unfold lk_World at ha
  unfold laws_eqWorld
  rw [laws_eqRegionS_eq _ _ (ha.1)]
  rw [laws_eqSaidS_eq _ _ (ha.2)]
  obtain ⟨x0, x1⟩ := a
  obtain ⟨y0, y1⟩ := b
  simp only [sEq, Option.bind_some, WorldT.mk.injEq]
  by_cases h0 : x0 = y0
  rotate_left
  · simp [h0]
  by_cases h1 : x1 = y1
  rotate_left
  · simp [h1]
  simp [h0, h1]
end Go.TL
set_option linter.unusedVariables false
set_option linter.unusedSimpArgs false
namespace Go.TL

/-- No event is of a greater version. -/
def oldE (v : Int) (l : List EventT) : Bool := l.all fun e => !decide (e.Version > v)
def oldT (v : Int) (t : TellingsT) : Bool := t.Branches.all fun b => oldE v b.Events
def wordP (v : Int) (t : TellingsT) : Bool := verP v && goodT t && oldT v t
def goodR (r : RegionT) : Bool := decide (0 ≤ r.Id ∧ r.Id ≤ 9) && wordP r.Version r.Tellings
theorem spec_GoodRegion_eq (r : RegionT) (hr : ok_Region r) : spec_GoodRegion r = some (goodR r) := by
  have ht : ok_Tellings r.Tellings := hr.2.2
  have h1 : r.Tellings.Branches.length ≤ 9223372036854775807 := ht.1
  unfold spec_GoodRegion spec_l13Version goodR wordP
  simp only [spec_l1In_eq, spec_GoodTellings_eq _ ht, Option.bind_some]
  have key := all_loop (step := spec_GoodRegion_L1 r) (fun i => (⟨i⟩ : spec_GoodRegion_G1)) r.Tellings.Branches.length (fun i => oldE r.Version (nth r.Tellings.Branches i).Events) (.inr () : Unit ⊕ Unit) (.inl ()) (fun i hi hv => ?_) (fun _ => ?_)
  · rw [key, allN_nth r.Tellings.Branches fun b => oldE r.Version b.Events]
    unfold oldT verP
    cases decide (0 ≤ r.Id ∧ r.Id ≤ 9) <;> cases decide (0 ≤ r.Version ∧ r.Version ≤ 1000000) <;> cases goodT r.Tellings <;> cases (r.Tellings.Branches.all fun b => oldE r.Version b.Events) <;> simp
  · have h2 : ok_LEvent (nth r.Tellings.Branches i).Events := ht.2 _ (nth_mem hi)
    have h3 := h2.1
    unfold spec_GoodRegion_L1
    dsimp only
    rw [if_pos (by rw [decide_eq_true_eq]; omega), guard_pos (by omega)]
    have e1 : wI ((i : Int) + 1) = ((i + 1 : Nat) : Int) := by rw [wI_id (by omega)]; omega
    rw [e1]
    have key2 := all_loop (step := spec_GoodRegion_L2 r (⟨(i : Int)⟩ : spec_GoodRegion_G1)) (fun k => (⟨k⟩ : spec_GoodRegion_G2)) (nth r.Tellings.Branches i).Events.length (fun k => !decide ((nth (nth r.Tellings.Branches i).Events k).Version > r.Version)) (.inr () : Unit ⊕ Unit) (.inl ()) (fun k hk _ => ?_) (fun _ => ?_)
    · rw [key2, allN_nth (nth r.Tellings.Branches i).Events fun e => !decide (e.Version > r.Version)]
      unfold oldE
      split <;> rfl
    · unfold spec_GoodRegion_L2
      simp only [Int.toNat_natCast]
      have e2 : wI ((k : Int) + 1) = ((k + 1 : Nat) : Int) := by rw [wI_id (by omega)]; omega
      rw [if_pos (by rw [decide_eq_true_eq]; omega), guard_pos (by omega), e2]
      cases decide ((nth (nth r.Tellings.Branches i).Events k).Version > r.Version) <;> rfl
    · unfold spec_GoodRegion_L2
      simp only [Int.toNat_natCast]
      rw [if_neg (by rw [decide_eq_true_eq]; omega)]
  · unfold spec_GoodRegion_L1
    dsimp only
    rw [if_neg (by rw [decide_eq_true_eq]; omega)]
theorem impl_old_eq (l : List EventT) (v : Int) (hl : l.length ≤ 9223372036854775807) : slices_ContainsFunc_impl_Event_impl_wordOk_c1_c1r l v = some (!oldE v l) := by
  unfold slices_ContainsFunc_impl_Event_impl_wordOk_c1_c1r slices_IndexFunc_impl_Event_impl_wordOk_c1_c1r
  have key := find_loop (step := slices_IndexFunc_impl_Event_impl_wordOk_c1_c1r_L1 l v) (fun i => (⟨i⟩ : slices_IndexFunc_impl_Event_impl_wordOk_c1_c1r_G1)) l.length (fun i => decide ((nth l i).Version > v))
    (fun i => (.inl ⟨i⟩ : slices_IndexFunc_impl_Event_impl_wordOk_c1_c1r_P1_0 ⊕ Unit)) (.inr ()) (fun i hi hv => ?_) ?_
  · rw [key]
    have e := findN_any l fun e => decide (e.Version > v)
    have e2 : (!oldE v l) = (l.any fun e => decide (e.Version > v)) := by
      unfold oldE
      rw [Bool.eq_iff_iff]; simp
    rw [e2, ← e]
    cases findN (fun i => decide ((nth l i).Version > v)) l.length with
    | none => rfl
    | some i => simp
  · unfold slices_IndexFunc_impl_Event_impl_wordOk_c1_c1r_L1 impl_wordOk_c1_c1_r
    dsimp only
    have e1 : wI ((i : Int) + 1) = ((i + 1 : Nat) : Int) := by rw [wI_id (by omega)]; omega
    rw [if_pos (by rw [decide_eq_true_eq]; omega), guard_pos (by omega), e1]
    simp only [Option.bind_some, Int.toNat_natCast]
    cases decide ((nth l i).Version > v) <;> rfl
  · unfold slices_IndexFunc_impl_Event_impl_wordOk_c1_c1r_L1
    dsimp only
    rw [if_neg (by rw [decide_eq_true_eq]; omega)]
theorem impl_oldT_eq (t : TellingsT) (v : Int) (ht : ok_Tellings t) : slices_ContainsFunc_impl_Branch_impl_wordOk_c1r t.Branches v = some (!oldT v t) := by
  have h1 : t.Branches.length ≤ 9223372036854775807 := ht.1
  unfold slices_ContainsFunc_impl_Branch_impl_wordOk_c1r slices_IndexFunc_impl_Branch_impl_wordOk_c1r
  have key := find_loop (step := slices_IndexFunc_impl_Branch_impl_wordOk_c1r_L1 t.Branches v) (fun i => (⟨i⟩ : slices_IndexFunc_impl_Branch_impl_wordOk_c1r_G1)) t.Branches.length (fun i => !oldE v (nth t.Branches i).Events)
    (fun i => (.inl ⟨i⟩ : slices_IndexFunc_impl_Branch_impl_wordOk_c1r_P1_0 ⊕ Unit)) (.inr ()) (fun i hi hv => ?_) ?_
  · rw [key]
    have e := findN_any t.Branches fun b => !oldE v b.Events
    have e2 : (!oldT v t) = (t.Branches.any fun b => !oldE v b.Events) := by
      unfold oldT
      rw [Bool.eq_iff_iff]; simp
    rw [e2, ← e]
    cases findN (fun i => !oldE v (nth t.Branches i).Events) t.Branches.length with
    | none => rfl
    | some i => simp
  · unfold slices_IndexFunc_impl_Branch_impl_wordOk_c1r_L1 impl_wordOk_c1_r
    dsimp only
    have e1 : wI ((i : Int) + 1) = ((i + 1 : Nat) : Int) := by rw [wI_id (by omega)]; omega
    rw [if_pos (by rw [decide_eq_true_eq]; omega), guard_pos (by omega), e1, Int.toNat_natCast, impl_old_eq _ _ (ht.2 _ (nth_mem hi)).1]
    simp only [Option.bind_some]
    cases oldE v (nth t.Branches i).Events <;> rfl
  · unfold slices_IndexFunc_impl_Branch_impl_wordOk_c1r_L1
    dsimp only
    rw [if_neg (by rw [decide_eq_true_eq]; omega)]
theorem impl_wordOk_eq (v : Int) (t : TellingsT) (ht : ok_Tellings t) : impl_wordOk v t = some (wordP v t) := by
  unfold impl_wordOk impl_isVersion wordP verP
  simp only [impl_in_eq, impl_GoodTellings_eq _ ht, impl_oldT_eq _ _ ht, Option.bind_some]
  cases decide (0 ≤ v ∧ v ≤ 1000000) <;> cases goodT t <;> simp
theorem impl_GoodRegion_eq (r : RegionT) (hr : ok_Region r) : impl_GoodRegion r = some (goodR r) := by
  unfold impl_GoodRegion impl_isRegion goodR
  simp only [impl_in_eq, impl_wordOk_eq _ _ hr.2.2, Option.bind_some]
  cases decide (0 ≤ r.Id ∧ r.Id ≤ 9) <;> simp
def saidP (s : SaidT) : Bool := decide (0 ≤ s.To ∧ s.To ≤ 1) && wordP s.Word.Version s.Word.Tellings
def goodW (w : WorldT) : Bool := decide (w.Regions.length = 2) && decide (w.Line.length ≤ 20) && allN (fun i => goodR (nth w.Regions i) && decide ((nth w.Regions i).Id = (i : Int))) w.Regions.length && w.Line.all saidP
theorem goodR_zero (v : Int) (t : TellingsT) : goodR ⟨0, v, t⟩ = wordP v t := by
  unfold goodR
  simp
theorem spec_GoodWorld_eq (w : WorldT) (hw : ok_World w) : spec_GoodWorld w = some (goodW w) := by
  have h1 : w.Regions.length ≤ 9223372036854775807 := hw.1.1
  have h2 : w.Line.length ≤ 9223372036854775807 := hw.2.1
  unfold spec_GoodWorld goodW
  have hJ : (if (((w.Regions.length : Nat) : Int) != 2) = true then some (⟨true⟩ : spec_GoodWorld_J4001) else some ⟨(decide (((w.Line.length : Nat) : Int) > 20))⟩) = some ⟨!(decide (w.Regions.length = 2) && decide (w.Line.length ≤ 20))⟩ := by
    by_cases e1 : w.Regions.length = 2
    · rw [if_neg (by rw [e1]; decide), decide_eq_true e1, Bool.true_and]
      congr 2
      rw [Bool.eq_iff_iff, decide_eq_true_eq]; simp; omega
    · rw [if_pos (by rw [bne_iff_ne]; omega), decide_eq_false e1]; rfl
  rw [hJ]
  simp only [Option.bind_some]
  have key := all_loop (step := spec_GoodWorld_L1 w) (fun i => (⟨i⟩ : spec_GoodWorld_G1)) w.Regions.length (fun i => goodR (nth w.Regions i) && decide ((nth w.Regions i).Id = (i : Int))) (.inr () : Unit ⊕ Unit) (.inl ()) (fun i hi hv => ?_) (fun _ => ?_)
  · have key2 := all_loop (step := spec_GoodWorld_L2 w) (fun i => (⟨i⟩ : spec_GoodWorld_G2)) w.Line.length (fun i => saidP (nth w.Line i)) (.inr () : Unit ⊕ Unit) (.inl ()) (fun i hi hv => ?_) (fun _ => ?_)
    · rw [key, key2, allN_nth w.Line saidP]
      cases (decide (w.Regions.length = 2) && decide (w.Line.length ≤ 20))
      · simp
      · cases allN (fun i => goodR (nth w.Regions i) && decide ((nth w.Regions i).Id = (i : Int))) w.Regions.length
        · simp
        · cases w.Line.all saidP <;> simp
    · have hs : ok_Said (nth w.Line i) := hw.2.2 _ (nth_mem hi)
      unfold spec_GoodWorld_L2
      dsimp only
      have e1 : wI ((i : Int) + 1) = ((i + 1 : Nat) : Int) := by rw [wI_id (by omega)]; omega
      have hok : ok_Region ⟨0, (nth w.Line i).Word.Version, (nth w.Line i).Word.Tellings⟩ := ⟨(⟨by decide, by decide⟩ : ok_I 0), hs.2.1, hs.2.2⟩
      rw [if_pos (by rw [decide_eq_true_eq]; omega), guard_pos (by omega), e1, Int.toNat_natCast]
      simp only [spec_l1In_eq, spec_GoodRegion_eq _ hok, Option.bind_some, goodR_zero]
      unfold saidP
      cases decide (0 ≤ (nth w.Line i).To ∧ (nth w.Line i).To ≤ 1) <;> cases wordP (nth w.Line i).Word.Version (nth w.Line i).Word.Tellings <;> simp
    · unfold spec_GoodWorld_L2
      dsimp only
      rw [if_neg (by rw [decide_eq_true_eq]; omega)]
  · have hs : ok_Region (nth w.Regions i) := hw.1.2 _ (nth_mem hi)
    unfold spec_GoodWorld_L1
    dsimp only
    have e1 : wI ((i : Int) + 1) = ((i + 1 : Nat) : Int) := by rw [wI_id (by omega)]; omega
    have e3 : spec_GoodRegion ⟨(nth w.Regions i).Id, (nth w.Regions i).Version, (nth w.Regions i).Tellings⟩ = some (goodR (nth w.Regions i)) := spec_GoodRegion_eq (nth w.Regions i) hs
    rw [if_pos (by rw [decide_eq_true_eq]; omega), guard_pos (by omega), e1, Int.toNat_natCast, e3]
    simp only [Option.bind_some]
    have e4 : ((nth w.Regions i).Id != (i : Int)) = !decide ((nth w.Regions i).Id = (i : Int)) := rfl
    rw [e4]
    cases goodR (nth w.Regions i) <;> cases decide ((nth w.Regions i).Id = (i : Int)) <;> simp
  · unfold spec_GoodWorld_L1
    dsimp only
    rw [if_neg (by rw [decide_eq_true_eq]; omega)]
theorem impl_line_eq (l : List SaidT) (hl : ok_LSaid l) : slices_ContainsFunc_impl_Said_impl_GoodWorld_c1 l = some (!l.all saidP) := by
  have h1 := hl.1
  unfold slices_ContainsFunc_impl_Said_impl_GoodWorld_c1 slices_IndexFunc_impl_Said_impl_GoodWorld_c1
  have key := find_loop (step := slices_IndexFunc_impl_Said_impl_GoodWorld_c1_L1 l) (fun i => (⟨i⟩ : slices_IndexFunc_impl_Said_impl_GoodWorld_c1_G1)) l.length (fun i => !saidP (nth l i))
    (fun i => (.inl ⟨i⟩ : slices_IndexFunc_impl_Said_impl_GoodWorld_c1_P1_0 ⊕ Unit)) (.inr ()) (fun i hi hv => ?_) ?_
  · rw [key]
    have e := findN_any l fun s => !saidP s
    have e2 : (!l.all saidP) = (l.any fun s => !saidP s) := by
      rw [Bool.eq_iff_iff]; simp
    rw [e2, ← e]
    cases findN (fun i => !saidP (nth l i)) l.length with
    | none => rfl
    | some i => simp
  · have hs : ok_Said (nth l i) := hl.2 _ (nth_mem hi)
    unfold slices_IndexFunc_impl_Said_impl_GoodWorld_c1_L1 impl_GoodWorld_c1 impl_isPlace
    dsimp only
    have e1 : wI ((i : Int) + 1) = ((i + 1 : Nat) : Int) := by rw [wI_id (by omega)]; omega
    rw [if_pos (by rw [decide_eq_true_eq]; omega), guard_pos (by omega), e1, Int.toNat_natCast]
    simp only [impl_in_eq, impl_wordOk_eq _ _ hs.2.2, Option.bind_some]
    unfold saidP
    cases decide (0 ≤ (nth l i).To ∧ (nth l i).To ≤ 1) <;> cases wordP (nth l i).Word.Version (nth l i).Word.Tellings <;> simp
  · unfold slices_IndexFunc_impl_Said_impl_GoodWorld_c1_L1
    dsimp only
    rw [if_neg (by rw [decide_eq_true_eq]; omega)]
theorem impl_GoodWorld_eq (w : WorldT) (hw : ok_World w) : impl_GoodWorld w = some (goodW w) := by
  have h1 : w.Regions.length ≤ 9223372036854775807 := hw.1.1
  have h2 : w.Line.length ≤ 9223372036854775807 := hw.2.1
  unfold impl_GoodWorld goodW
  have hJ : (if (((w.Regions.length : Nat) : Int) != 2) = true then some (⟨true⟩ : impl_GoodWorld_J4001) else some ⟨(decide (((w.Line.length : Nat) : Int) > 20))⟩) = some ⟨!(decide (w.Regions.length = 2) && decide (w.Line.length ≤ 20))⟩ := by
    by_cases e1 : w.Regions.length = 2
    · rw [if_neg (by rw [e1]; decide), decide_eq_true e1, Bool.true_and]
      congr 2
      rw [Bool.eq_iff_iff, decide_eq_true_eq]; simp; omega
    · rw [if_pos (by rw [bne_iff_ne]; omega), decide_eq_false e1]; rfl
  rw [hJ]
  simp only [Option.bind_some, impl_line_eq _ hw.2]
  have key := all_loop (step := impl_GoodWorld_L1 w) (fun i => (⟨i⟩ : impl_GoodWorld_G1)) w.Regions.length (fun i => goodR (nth w.Regions i) && decide ((nth w.Regions i).Id = (i : Int))) (.inr () : Unit ⊕ Unit) (.inl ()) (fun i hi hv => ?_) (fun _ => ?_)
  · rw [key]
    cases (decide (w.Regions.length = 2) && decide (w.Line.length ≤ 20))
    · simp
    · cases allN (fun i => goodR (nth w.Regions i) && decide ((nth w.Regions i).Id = (i : Int))) w.Regions.length
      · simp
      · cases w.Line.all saidP <;> simp
  · have hs : ok_Region (nth w.Regions i) := hw.1.2 _ (nth_mem hi)
    unfold impl_GoodWorld_L1
    dsimp only
    have e1 : wI ((i : Int) + 1) = ((i + 1 : Nat) : Int) := by rw [wI_id (by omega)]; omega
    have e3 : impl_GoodRegion ⟨(nth w.Regions i).Id, (nth w.Regions i).Version, (nth w.Regions i).Tellings⟩ = some (goodR (nth w.Regions i)) := impl_GoodRegion_eq (nth w.Regions i) hs
    rw [if_pos (by rw [decide_eq_true_eq]; omega), guard_pos (by omega), e1, Int.toNat_natCast, e3]
    simp only [Option.bind_some]
    have e4 : ((nth w.Regions i).Id != (i : Int)) = !decide ((nth w.Regions i).Id = (i : Int)) := rfl
    rw [e4]
    cases goodR (nth w.Regions i) <;> cases decide ((nth w.Regions i).Id = (i : Int)) <;> simp
  · unfold impl_GoodWorld_L1
    dsimp only
    rw [if_neg (by rw [decide_eq_true_eq]; omega)]
theorem goodW_regions {w : WorldT} (h : goodW w = true) : w.Regions.length = 2 ∧ ∀ i, i < 2 → goodR (nth w.Regions i) = true := by
  unfold goodW at h
  simp only [Bool.and_eq_true, decide_eq_true_eq, allN_iff] at h
  exact ⟨h.1.1.1, fun i hi => (h.1.2 i (by omega)).1⟩
end Go.TL
set_option linter.unusedVariables false
set_option linter.unusedSimpArgs false
set_option maxRecDepth 4000
namespace Go.TL
theorem nBrs_size (l : List BranchT) : nBrs l ≤ 4 * sumN (l.map siz_Branch) := by
  induction l with
  | nil => simp [nBrs, totw, sumN]
  | cons b r ih =>
    have h : wBranch b ≤ 4 * siz_Branch b := by unfold wBranch siz_Branch siz_LEvent; omega
    unfold nBrs at ih ⊢
    rw [totw_cons]
    simp only [List.map_cons, sumN]
    omega
theorem tell_size {t : TellingsT} {n : Nat} (h : siz_Tellings t ≤ n) : t.Branches.length ≤ n ∧ nBrs t.Branches ≤ 4 * n := by
  have := nBrs_size t.Branches
  unfold siz_Tellings siz_LBranch at h
  omega
end Go.TL
set_option linter.unusedVariables false
set_option linter.unusedSimpArgs false
set_option maxRecDepth 4000
namespace Go.TL
theorem mark_Ints_eq (l : List Int) (k : Int) (hk : 0 ≤ k) (hl : l.length ≤ 1099511627776) (hb : k + ((1 * l.length : Nat) : Int) ≤ 1152921504606846976) :
    laws_markIntS_w l k = some (k + ((1 * l.length : Nat) : Int), marks id 1 k l.length) := by
  unfold laws_markIntS_w
  have key := mark_loop (step := laws_markIntS_w_L1) (fun i k l => (⟨k, i, l⟩ : laws_markIntS_w_G1)) 1 id l.length 1152921504606846976 (fun k l => (⟨k, l⟩ : laws_markIntS_w_P1_0)) (fun i k l' hi hl' h0 h1 => ?_) (fun k l' hl' => ?_) k l rfl hk hb
  · rw [key]; rfl
  · unfold laws_markIntS_w_L1
    rw [if_pos (by simp; omega)]
    simp (disch := omega) only [Option.bind_some, guard_pos, Int.toNat_natCast, wI_id]
    rfl
  · unfold laws_markIntS_w_L1
    rw [if_neg (by simp; omega)]
theorem held_Ints_eq (n : Nat) (k : Int) (hk : 0 ≤ k) (hl : n ≤ 1099511627776) (hb : k + ((1 * n : Nat) : Int) ≤ 1152921504606846976) :
    laws_heldIntS (marks id 1 k n) k = some (k + ((1 * n : Nat) : Int)) := by
  unfold laws_heldIntS
  have key := held_loop (step := laws_heldIntS_L1 (marks id 1 k n)) (fun i k => (⟨k, i⟩ : laws_heldIntS_G1)) 1 id n 1152921504606846976 (fun k => (⟨k⟩ : laws_heldIntS_P1_1)) k (fun i k' hi hn h0 h1 => ?_) (fun k' => ?_) hk hb
  · rw [key]; rfl
  · unfold laws_heldIntS_L1
    rw [if_pos (by simp [marks_length]; omega)]
    simp (disch := simp only [marks_length]; omega) only [Option.bind_some, guard_pos, Int.toNat_natCast]
    rw [hn, if_neg (by simp), wI_id (by omega), wI_id (by omega)]
    rfl
  · unfold laws_heldIntS_L1
    rw [if_neg (by simp [marks_length])]
theorem laws_toRegionS_d_eq (a : (List RegionT)) (ha : siz_LRegion a ≤ 4194304) : laws_toRegionS_d a = some a := by
  unfold siz_LRegion at ha
  unfold laws_toRegionS_d
  rw [guard_pos (by omega)]
  have key := fill_loop (step := laws_toRegionS_d_L1 a) (fun i l => (⟨i, l⟩ : laws_toRegionS_d_G1)) a (fun x => x) (fun l => (⟨l⟩ : laws_toRegionS_d_P1_0)) (fun i l hi hl => ?_) (fun l hl => ?_) (List.replicate a.length (⟨0, 0, (⟨[]⟩ : TellingsT)⟩ : RegionT)) (by simp)
  · rw [key]; simp
  · unfold laws_toRegionS_d_L1
    have hm : siz_Region (nth a i) ≤ 4194304 := Nat.le_trans (sumN_mem siz_Region (nth_mem hi)) (by omega)
    have e2 : (⟨(nth a i).Id, (nth a i).Version, (nth a i).Tellings⟩ : RegionT) = nth a i := rfl
    simp (disch := omega) only [decide_eq_true_eq, if_pos, guard_pos, Int.toNat_natCast, wI_id, e2]
    rw [laws_toRegion_eq _ hm]
    simp (disch := omega) only [Option.bind_some, guard_pos]
    rfl
  · unfold laws_toRegionS_d_L1
    rw [if_neg (by simp)]
theorem laws_toWorld_d_eq (a : WorldT) (ha : siz_World a ≤ 4194304) : laws_toWorld_d a = some a := by
  unfold siz_World at ha
  unfold laws_toWorld_d
  rw [laws_toRegionS_d_eq _ (by omega)]
  simp only [Option.bind_some]
  rw [laws_toSaidS_eq _ (by omega)]
  simp only [Option.bind_some]
  all_goals rfl
noncomputable def mRegion (k : Int) (r : RegionT) : RegionT := ⟨k, k + 1, ⟨mBrs r.Tellings.Branches (k + 2)⟩⟩
def wRegion (r : RegionT) : Nat := 2 + nBrs r.Tellings.Branches
noncomputable def mSaid (k : Int) (r : SaidT) : SaidT := ⟨k, ⟨k + 1, ⟨mBrs r.Word.Tellings.Branches (k + 2)⟩⟩⟩
def wSaid (r : SaidT) : Nat := 2 + nBrs r.Word.Tellings.Branches
theorem mark_RegionS_eq (l : List RegionT) (k : Int) (hk : 0 ≤ k) (hl : l.length ≤ 1099511627776) (hi : ∀ i, i < l.length → (nth l i).Tellings.Branches.length ≤ 1099511627776) (hb : k + totw wRegion l ≤ 1099511627776) :
    laws_markRegionS_wd l k = some (k + totw wRegion l, mseq mRegion wRegion l k) := by
  unfold laws_markRegionS_wd
  have key := markseq_loop (step := laws_markRegionS_wd_L1) (fun i k l => (⟨k, i, l⟩ : laws_markRegionS_wd_G1)) wRegion mRegion l 1099511627776 (fun k l => (⟨k, l⟩ : laws_markRegionS_wd_P1_0)) (fun i k l' h hl' hn h0 h1 => ?_) (fun k l' hl' => ?_) k hk hb
  · rw [key]; rfl
  · have hw : wRegion (nth l i) = 2 + nBrs (nth l i).Tellings.Branches := rfl
    rw [hw] at h1
    have e1 : wI (k + 1) = k + 1 := wI_id (by omega)
    have e2 : wI (k + 1 + 1) = k + 2 := by rw [wI_id (by omega)]; omega
    have e3 : wI ((i : Int) + 1) = ((i + 1 : Nat) : Int) := by rw [wI_id (by omega)]; omega
    have e4 : k + 2 + (nBrs (nth l i).Tellings.Branches : Int) = k + (wRegion (nth l i) : Int) := by rw [hw]; omega
    unfold laws_markRegionS_wd_L1
    dsimp only
    rw [if_pos (by simp; omega), guard_pos (by omega), guard_pos (by omega), guard_pos (by omega), guard_pos (by omega), Int.toNat_natCast, hn, e1, e2, e3, mark_BranchS_eq _ _ (by omega) (hi i h) (by omega)]
    simp only [Option.bind_some]
    rw [guard_pos (mseq_len ..), e4]
    rfl
  · unfold laws_markRegionS_wd_L1
    rw [if_neg (by simp; omega)]
theorem mark_SaidS_eq (l : List SaidT) (k : Int) (hk : 0 ≤ k) (hl : l.length ≤ 1099511627776) (hi : ∀ i, i < l.length → (nth l i).Word.Tellings.Branches.length ≤ 1099511627776) (hb : k + totw wSaid l ≤ 1099511627776) :
    laws_markSaidS_wd l k = some (k + totw wSaid l, mseq mSaid wSaid l k) := by
  unfold laws_markSaidS_wd
  have key := markseq_loop (step := laws_markSaidS_wd_L1) (fun i k l => (⟨k, i, l⟩ : laws_markSaidS_wd_G1)) wSaid mSaid l 1099511627776 (fun k l => (⟨k, l⟩ : laws_markSaidS_wd_P1_0)) (fun i k l' h hl' hn h0 h1 => ?_) (fun k l' hl' => ?_) k hk hb
  · rw [key]; rfl
  · have hw : wSaid (nth l i) = 2 + nBrs (nth l i).Word.Tellings.Branches := rfl
    rw [hw] at h1
    have e1 : wI (k + 1) = k + 1 := wI_id (by omega)
    have e2 : wI (k + 1 + 1) = k + 2 := by rw [wI_id (by omega)]; omega
    have e3 : wI ((i : Int) + 1) = ((i + 1 : Nat) : Int) := by rw [wI_id (by omega)]; omega
    have e4 : k + 2 + (nBrs (nth l i).Word.Tellings.Branches : Int) = k + (wSaid (nth l i) : Int) := by rw [hw]; omega
    unfold laws_markSaidS_wd_L1
    dsimp only
    rw [if_pos (by simp; omega), guard_pos (by omega), guard_pos (by omega), guard_pos (by omega), guard_pos (by omega), Int.toNat_natCast, hn, e1, e2, e3, mark_BranchS_eq _ _ (by omega) (hi i h) (by omega)]
    simp only [Option.bind_some]
    rw [guard_pos (mseq_len ..), e4]
    rfl
  · unfold laws_markSaidS_wd_L1
    rw [if_neg (by simp; omega)]
theorem regions_size {l : List RegionT} {n : Nat} (h : siz_LRegion l ≤ n) : l.length ≤ n ∧ (∀ i, i < l.length → (nth l i).Tellings.Branches.length ≤ n) ∧ totw wRegion l ≤ 6 * n := by
  unfold siz_LRegion at h
  refine ⟨by omega, fun i hi => ?_, ?_⟩
  · have h1 := sumN_mem siz_Region (nth_mem hi)
    have h2 := (tell_size (t := (nth l i).Tellings) (Nat.le_refl _)).1
    have h3 : siz_Tellings (nth l i).Tellings ≤ siz_Region (nth l i) := by unfold siz_Region; omega
    omega
  · have : totw wRegion l ≤ 2 * l.length + 4 * sumN (l.map siz_Region) := by
      clear h
      induction l with
      | nil => simp [totw, sumN]
      | cons b r ih =>
        have h2 := (tell_size (t := b.Tellings) (Nat.le_refl _)).2
        have h3 : wRegion b ≤ 2 + 4 * siz_Region b := by unfold wRegion siz_Region; omega
        rw [totw_cons]
        simp only [List.map_cons, sumN, List.length_cons]
        omega
    omega
theorem said_size {l : List SaidT} {n : Nat} (h : siz_LSaid l ≤ n) : l.length ≤ n ∧ (∀ i, i < l.length → (nth l i).Word.Tellings.Branches.length ≤ n) ∧ totw wSaid l ≤ 6 * n := by
  unfold siz_LSaid at h
  refine ⟨by omega, fun i hi => ?_, ?_⟩
  · have h1 := sumN_mem siz_Said (nth_mem hi)
    have h2 := (tell_size (t := (nth l i).Word.Tellings) (Nat.le_refl _)).1
    have h3 : siz_Tellings (nth l i).Word.Tellings ≤ siz_Said (nth l i) := by unfold siz_Said siz_Word; omega
    omega
  · have : totw wSaid l ≤ 2 * l.length + 4 * sumN (l.map siz_Said) := by
      clear h
      induction l with
      | nil => simp [totw, sumN]
      | cons b r ih =>
        have h2 := (tell_size (t := b.Word.Tellings) (Nat.le_refl _)).2
        have h3 : wSaid b ≤ 2 + 4 * siz_Said b := by unfold wSaid siz_Said siz_Word; omega
        rw [totw_cons]
        simp only [List.map_cons, sumN, List.length_cons]
        omega
    omega
def actB (r : RegionT) : Bool := r.Version.tmod 10 == r.Id
def actL (w : WorldT) : Nat → List Int
  | 0 => []
  | i + 1 => if actB (nth w.Regions i) = true then actL w i ++ [(i : Int)] else actL w i
theorem actL_len (w : WorldT) : ∀ i, (actL w i).length ≤ i
  | 0 => by simp [actL]
  | i + 1 => by
    have := actL_len w i
    unfold actL
    split
    · simp; omega
    · omega
def leadW (w : WorldT) : List Int × Bool := if goodW w = true then (actL w w.Regions.length, true) else ([], false)
theorem spec_LeadersIn_eq (w : WorldT) (hw : ok_World w) : spec_LeadersIn w = some (leadW w) := by
  unfold spec_LeadersIn leadW
  rw [spec_GoodWorld_eq _ hw]
  simp only [Option.bind_some]
  cases hg : goodW w
  · simp
  rw [if_neg (by simp), if_pos rfl]
  have h2 := (goodW_regions hg).1
  have key : ∀ (m i : Nat), i + m = w.Regions.length → loopF (spec_LeadersIn_L1 w) ⟨(i : Int), actL w i⟩ = some ⟨actL w w.Regions.length⟩ := by
    intro m
    induction m with
    | zero =>
      intro i hi
      have e : i = w.Regions.length := by omega
      apply loop_out
      unfold spec_LeadersIn_L1
      dsimp only
      rw [if_neg (by simp; omega), e]
    | succ m ih =>
      intro i hi
      have hs : spec_LeadersIn_L1 w ⟨(i : Int), actL w i⟩ = some (.inl ⟨((i + 1 : Nat) : Int), actL w (i + 1)⟩) := by
        have ht := actL_len w i
        have e1 : wI ((i : Int) + 1) = ((i + 1 : Nat) : Int) := by rw [wI_id (by omega)]; omega
        have e2 : actL w (i + 1) = if actB (nth w.Regions i) = true then actL w i ++ [(i : Int)] else actL w i := rfl
        unfold spec_LeadersIn_L1 spec_l16Active
        dsimp only
        rw [if_pos (by rw [decide_eq_true_eq]; omega), guard_pos (by omega), Int.toNat_natCast, e1, e2]
        simp only [Option.bind_some]
        unfold actB
        split
        · rw [guard_pos (by omega)]
        · rfl
      rw [loop_on hs]
      exact ih (i + 1) (by omega)
  have := key w.Regions.length 0 (by omega)
  have e0 : ((0 : Nat) : Int) = 0 := rfl
  rw [e0] at this
  have e1 : actL w 0 = [] := rfl
  rw [e1] at this
  rw [this]
  rfl
theorem impl_LeadersIn_eq (w : WorldT) (hw : ok_World w) : impl_LeadersIn w = some (leadW w) := by
  unfold impl_LeadersIn leadW
  rw [impl_GoodWorld_eq _ hw]
  simp only [Option.bind_some]
  cases hg : goodW w
  · simp
  rw [if_neg (by simp), if_pos rfl]
  have h2 := (goodW_regions hg).1
  have key : ∀ (m i : Nat), i + m = w.Regions.length → loopF (impl_LeadersIn_L1 w) ⟨(i : Int), actL w i⟩ = some ⟨actL w w.Regions.length⟩ := by
    intro m
    induction m with
    | zero =>
      intro i hi
      have e : i = w.Regions.length := by omega
      apply loop_out
      unfold impl_LeadersIn_L1
      dsimp only
      rw [if_neg (by simp; omega), e]
    | succ m ih =>
      intro i hi
      have hs : impl_LeadersIn_L1 w ⟨(i : Int), actL w i⟩ = some (.inl ⟨((i + 1 : Nat) : Int), actL w (i + 1)⟩) := by
        have ht := actL_len w i
        have e1 : wI ((i : Int) + 1) = ((i + 1 : Nat) : Int) := by rw [wI_id (by omega)]; omega
        have e2 : actL w (i + 1) = if actB (nth w.Regions i) = true then actL w i ++ [(i : Int)] else actL w i := rfl
        unfold impl_LeadersIn_L1 impl_Region_active_r
        dsimp only
        rw [if_pos (by rw [decide_eq_true_eq]; omega), guard_pos (by omega), Int.toNat_natCast, e1, e2]
        simp only [Option.bind_some]
        unfold actB
        split
        · rw [guard_pos (by omega)]
        · rfl
      rw [loop_on hs]
      exact ih (i + 1) (by omega)
  have := key w.Regions.length 0 (by omega)
  have e0 : ((0 : Nat) : Int) = 0 := rfl
  rw [e0] at this
  have e1 : actL w 0 = [] := rfl
  rw [e1] at this
  rw [this]
  rfl
theorem leadW_len {w : WorldT} (n : Nat) (h : w.Regions.length ≤ n) : (leadW w).1.length ≤ n := by
  unfold leadW
  split
  · have := actL_len w w.Regions.length
    simp only; omega
  · simp
theorem leaders_holds (w : WorldT) (hw : ok_World w) : laws_FnExactLeadersIn w = some true := by
  unfold laws_FnExactLeadersIn
  rw [laws_szWorld_eq _ _ hw (by omega) (by omega)]
  simp only [Option.bind_some]
  by_cases h : (siz_World w : Int) ≤ 1048576
  rotate_left
  · rw [if_pos (decide_eq_true (szr_no h))]
  have hz : siz_LRegion w.Regions ≤ 1048576 := by unfold siz_World at h; omega
  have hz2 : siz_LSaid w.Line ≤ 1048576 := by unfold siz_World at h; omega
  obtain ⟨z1, z2, z3⟩ := regions_size hz
  obtain ⟨z4, z5, z6⟩ := said_size hz2
  have z7 := leadW_len 1048576 z1
  rw [if_neg (by simpa using szr_ok h), laws_toWorld_d_eq _ (by omega)]
  simp only [Option.bind_some]
  rw [spec_LeadersIn_eq _ hw, impl_LeadersIn_eq _ hw]
  simp only [Option.bind_some]
  have hlk : lk_LI (leadW w).1 := ⟨by omega, fun y _ => trivial⟩
  rw [laws_eqIntS_eq _ _ hlk, laws_eqWorld_eq _ _ (lk_of_World hw)]
  simp only [Option.bind_some, decide_true, Bool.not_true, beq_self_eq_true, Bool.false_eq_true, if_false]
  unfold laws_markWorld_wwdd
  rw [mark_RegionS_eq _ 1 (by omega) (by omega) (fun i hi => Nat.le_trans (z2 i hi) (by omega)) (by omega)]
  simp only [Option.bind_some]
  rw [guard_pos (mseq_len ..), mark_SaidS_eq _ _ (by omega) (by omega) (fun i hi => Nat.le_trans (z5 i hi) (by omega)) (by omega)]
  simp only [Option.bind_some]
  rw [guard_pos (mseq_len ..)]
  simp only [Option.bind_some]
  rw [guard_pos (mseq_len ..), guard_pos (mseq_len ..), if_neg (by simp; omega)]
  simp only [Option.bind_some, Bool.false_eq_true, if_false]
  rw [mark_Ints_eq _ 1 (by omega) (by omega) (by omega)]
  simp only [Option.bind_some]
  rw [guard_pos (marks_length ..), held_Ints_eq _ 1 (by omega) (by omega) (by omega)]
  simp only [Option.bind_some]
  rw [if_neg (by simp; omega), if_neg (by simp), if_neg (by simp; omega), if_neg (by simp)]
end Go.TL
